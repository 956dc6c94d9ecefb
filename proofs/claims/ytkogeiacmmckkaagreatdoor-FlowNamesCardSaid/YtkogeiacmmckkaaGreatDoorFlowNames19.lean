/- Part 19. -/
import Derived.Test.YtkogeiacmmckkaaGreatDoorFlowNames18
import Derived.Below
import Derived.Carry
import Derived.ChangeOld
import Derived.Handed
import Derived.LaidLaws
import Derived.MakeChecks
import Derived.OpenShut
import Derived.Stop.Joined
import Derived.Test.YtkogeiacmmckkaaGreatDoorRows
set_option linter.all false
set_option maxHeartbeats 0
set_option maxRecDepth 10000
noncomputable section
namespace Go.Abs
open List
open Go.ChangeShapes Go.WideShapes
inductive D9:List Sh->List D->Prop
 |nil:D9 [] []
 |cons {s:Sh} {l:List Sh} {ds:List D} (x:s.val) (hx:s.ok x) (h:D9 l ds):D9 (s::l) (s.arg x::ds)
def Aw(P:Program)(n:Nat):List TypeId->Option (List Sh)
 |[]=>some []
 |t::ts=>match xu P n t,Aw P n ts with
  |some s,some l=>some (s::l)
  |_,_=>none
def afR{P:Program}{n:Nat}{t:TypeId}{ts:List TypeId}{l:List Sh}(h:Aw P n (t::ts)=some l):∃ s C,xu P n t=some s/\Aw P n ts=some C/\l=s::C:=by
 simp[Aw] at h;split at h
 .rename_i s C h1 h2;simp[aY] at h;exact⟨s,C,h1,h2,h.symm⟩
 .cases h
section
variable{P:Program}{H:Type}{ec:TypeId×Value->H}{w w':World}{base b0:Nat}{r:Reach}{F:Nat->Prop}
def Yt(J:Hs F w){n:Nat}:∀ {ts:List TypeId} {C:List Sh} {vs:List Value} {ds:List (DataW H)} {ps:List MemPlace},Aw P n ts=some C->C.all Sh.vA=true->
 (∀ (j:Nat) t v,ts[j]? =some t->vs[j]? =some v->Value.okWide P w r b0 t v)->DataW.TrodAll ec P w base (λ_=>true) true ts vs ds ps->
 ∃ aS,D9 C aS/\aS.length=vs.length/\∀ (k:Nat) (d:D) (v:Value),aS[k]? =some d->vs[k]? =some v->R F iE w d v
 |[],C,[],[],_,hs,_,_,_=>by
  simp[Aw,aY] at hs;subst hs;exact⟨[],.nil,rfl,oS⟩
 |t::ts,C,v::vs,d::ds,ps,hs,vB,c6,h=>by
  let⟨p,q,h1,h2,_⟩:=h;obtain⟨s,l',O,U,rfl⟩:=afR hs;simp only[all_cons,aH] at vB;let⟨x,X,hx⟩:=anu J O vB.1 (c6 0 t v rfl rfl) h1;let⟨aS,a1,a2,a3⟩:=Yt J U vB.2 (λj t v hj hv=>c6 (j+1) t v (tn hj) (tn hv)) h2;refine⟨s.arg x::aS,.cons x X a1,by simp[a2],λk d v hd hv=>?_⟩;cases k with
  |zero=>
   simp[getElem?_cons_zero,aY] at hd hv;subst hd hv;exact hx
  |succ k=>exact a3 k d v (tn hd) (tn hv)
 |[],_,_::_,_,_,_,_,_,h=>by simp[DataW.TrodAll] at h
 |[],_,[],_::_,_,_,_,_,h=>by simp[DataW.TrodAll] at h
 |_::_,_,[],_,_,_,_,_,h=>by simp[DataW.TrodAll] at h
 |_::_,_,_::_,[],_,_,_,_,h=>by simp[DataW.TrodAll] at h
def Kept.same(h:Kept w w'){p:MemPlace}(hp:p.block<w.heap.size):w.sameAt w' p:=by
 cases p with
 |cell b o=>exact Go.World.cell?_of_block (w:=w) (h.2.1 b hp)
 |map b=>exact h.2.1 b hp
def Kept.frame(h:Kept w w')(C:MemPlace->Prop):w.keptBut w' C:=by
 refine⟨h.2.2.1,h.2.2.2,λi hi=>?_⟩;rw[h.2.1 i hi];split<;>simp_all
def Tv(hl:laidOutB P=true)(h:Kept w w'):∀ {ts:List TypeId} {vs:List Value} {ds:List (DataW H)} {ps:List MemPlace},(ts.all λt=>P.readableRec t&&decide (t<P.types.size))=true->
 DataW.TrodAll ec P w 0 (λ_=>true) true ts vs ds ps->DataW.TrodAll ec P w' 0 (λb=>decide (b<w.heap.size)) true ts vs ds ps
 |[],[],[],_,_,h0=>h0
 |t::ts,v::vs,d::ds,ps,ht,h0=>by
  obtain⟨p,q,h1,h2,rfl⟩:=h0;simp[all_cons,aH,decide_eq_true_eq] at ht;have al:∀ x∈p,x.block<w.heap.size:=by let⟨m,hm⟩:=h1;exact DataW.trod_lt m _ _ _ hm
  exact⟨p,q,WideElems.Trod_stays hl ht.1.1 ht.1.2 h1 (λx hx=>h.same (al x hx)) (λx hx=>tn (al x hx)),Tv hl h (tn ht.2) h2,rfl⟩
 |[],_::_,_,_,_,h0=>by simp[DataW.TrodAll] at h0
 |[],[],_::_,_,_,h0=>by simp[DataW.TrodAll] at h0
 |_::_,[],_,_,_,h0=>by simp[DataW.TrodAll] at h0
 |_::_,_::_,[],_,_,h0=>by simp[DataW.TrodAll] at h0
def TW:∀ {ts:List TypeId} {vs:List Value} {ds:List (DataW H)} {ps:List MemPlace},DataW.TrodAll ec P w 0 (λ_=>true) true ts vs ds ps->ds.length=ts.length
 |[],[],[],_,_=>rfl
 |t::ts,v::vs,d::ds,ps,h0=>by
  obtain⟨p,q,h1,h2,rfl⟩:=h0;simp[TW h2]
 |[],_::_,_,_,h0=>by simp[DataW.TrodAll] at h0
 |[],[],_::_,_,h0=>by simp[DataW.TrodAll] at h0
 |_::_,[],_,_,h0=>by simp[DataW.TrodAll] at h0
 |_::_,_::_,[],_,h0=>by simp[DataW.TrodAll] at h0
def We{nm:String}{d:DataW Unit}:∀ {l:List (String×DataW Unit)} {ps:List MemPlace},DataW.LaidVars P w l ps->(nm,d)∈l->
 ∃ g t cs fu p,P.globalNamed nm=some g/\(P.globals[g]?).map (·.type)=some t/\w.var? P nm=some cs/\DataW.trod (λ_=>()) P w 0 (λ_=>true) false fu t cs.toList=some (d,p)/\∀ x∈MemPlace.row ⟨g,0,none⟩ cs.size,x∈ps
 |[],_,_,h=>by simp at h
 |(n,e)::r,ps,hv,h=>by
  obtain⟨g,t,cs,fu,p,q,h1,h2,O,U,X,rfl⟩:=hv;rcases mem_cons.1 h with h|h
  .cases h;exact⟨g,t,cs,fu,p,h1,h2,O,U,λx hx=>mem_append_left _ (mem_append_left _ hx)⟩
  .let⟨J,t',cs',C,p',k1,k2,k3,k4,k5⟩:=We X h;exact⟨J,t',cs',C,p',k1,k2,k3,k4,λx hx=>mem_append_right _ (k5 x hx)⟩
def Vk{e:TypeId}{m:Nat}{spare:Nat->Bool}{held:Bool}(he:P.underlying e=some (.int .u64))(hc:P.cellsOf e=1):∀ {cs:List Value} {l:List Int} {xs:List (DataW H×List MemPlace)},cs.length=l.length->xs.map (·.1)=l.map (λn=>DataW.lit (.int .u64 n))->
 (∀ i,i<l.length->DataW.trod ec P w base spare held m e ((cs.drop i).take 1)=xs[i]?)->cs=l.map (Value.int .u64 ·)
 |[],[],_,_,_,_=>rfl
 |c::cs,n::l,[],_,hx,_=>by simp at hx
 |c::cs,n::l,x::xs,hl,hx,h=>by
  have h0:=h 0 oS;simp[drop_zero,take_succ_cons,take_zero,getElem?_cons_zero] at h0;let⟨b,hb,J,_⟩:=DataW.trod_int he h0;simp[map_cons,cons.injEq] at hx;have C:x.1=DataW.lit (.int .u64 b):=by rw[J]
  rw[hx.1] at C;simp[DataW.lit.injEq,Lit.int.injEq,true_and] at C;subst C;simp[cons.injEq,and_true] at hb;subst hb;rw[map_cons,Vk he hc (cs:=cs) (l:=l) (xs:=xs) (tn hl) hx.2 λi hi=>tn (h (i+1) (tn hi))]
 |[],_::_,_,hl,_,_=>by simp at hl
 |_::_,[],_,hl,_,_=>by simp at hl
def ad6{laid:List (String×DataW Unit)}{nm:String}{g t e:Nat}{l:List Int}(h:laidMet P laid w)(hm:(nm,DataW.agg (l.map λn=>DataW.lit (.int .u64 n)))∈laid)(hg:P.globalNamed nm=some g)
 (ht:(P.globals[g]?).map (·.type)=some t) (hu:P.underlying t=some (.array l.length e)) (hs:P.cellsOf t=l.length) (he:P.underlying e=some (.int .u64)) (hc:P.cellsOf e=1) (bC:0<l.length):
 ∃ ty,w.heap[g]? =some (.cells (l.map (Value.int .u64 ·)).toArray ty (0,0)):=by
 let⟨ps,hv,_,hp⟩:=h;let⟨O,t',cs,fu,p,h1,h2,J,U,X⟩:=We hv hm;obtain rfl:g=O:=Option.some.inj (hg.symm.trans h1);obtain rfl:t=t':=Option.some.inj (ht.symm.trans h2);let⟨xs,m,_,e2,e3,e4,e5⟩:=DataW.trod_array hu U
 have C:cs.toList=l.map (Value.int .u64 ·):=by
  refine Vk (ec:=λ_=>()) (w:=w) (base:=0) (spare:=λ_=>true) (held:=false) (m:=m) (xs:=xs) he hc (by rw[e3,hs]) ?_ λi hi=>?_
  .simp[cO,DataW.agg.injEq] at e2;exact e2.1.symm
  .have:=e5 i hi
   rwa[hc,Nat.mul_one] at this
 have bZ:0<cs.size:=by
  have:cs.toList.length=l.length:=by rw[C];simp
  simp at this;omega
 let⟨⟨c,ty,hh⟩,_⟩:=hp g 0 (X _ (by
  unfold MemPlace.row;refine mem_map.2 ⟨0,tn bZ,?_⟩
  simp[Addr.add]))
 refine⟨ty,?_⟩;simp[World.var?,hg,Option.bind_some,hh,aY] at J;subst J;rw[hh, <- C]
end
def acR{C:Checked}{f:FuncId}{fn:Func}{s:ChangeSpec}{H:Type}{ec:TypeId×Value->H}{n:Nat}{zq:List Sh}{tb:TypeId}{F:Nat->Prop}
 (ZJ:s.vars=[]) (hs:∀ ds:List (DataW H),ds.length=fn.params.size->s.fn H ds={ results:=[.lit (.bool true)],args:=ds })
 (J:laidOutB C.prog=true) (O:(fn.params.toList.all λt=>C.prog.readableRec t&&decide (t<C.prog.types.size))=true) (pC:fn.resultTypes= #[tb]) (hb:C.prog.underlying tb=some .bool)
 (Fj:Aw C.prog n fn.params.toList=some zq) (vB:zq.all Sh.vA=true) (h:∀ aS,D9 zq aS->aE C.prog f aS (.s (.bool true)))
 (W:World) (base:Nat) (args:Array Value) (ds gs:List (DataW H)) (before:List MemPlace) (Mm:FB F W) (hU:Hs F W)
 (H0:∀ (j:Nat) t v,fn.params[j]? =some t->args[j]? =some v->Value.okWide C.prog W .any base t v)
 (hW:DataW.Whole ec C.prog fn.params.toList s.vars false W args.toList ds gs before):
 Calls C.prog f args W λe W'=>∃ v,e=.returned v/\s.post ec C.prog fn false true false false W args v W':=by
 have hW':=hW;obtain⟨p,q,U,X,rfl,hfz,eY⟩:=hW;rw[ZJ] at X
 have hg:gs=[]/\q=[]:=by
  cases gs with
  |nil=>exact⟨rfl,X⟩
  |cons g gs=>exact X.elim
 obtain⟨rfl,rfl⟩:=hg;let⟨aS,a1,a2,a3⟩:=Yt hU Fj vB (λj t v hj hv=>H0 j t v (tn hj) (tn hv)) U;refine((h aS a1).2.2 F W args Mm ⟨tn a2.symm,λk d v hd hv=>a3 k d v hd (tn hv)⟩).mono ?_;rintro e W' ⟨v,rfl,hv,hk⟩;obtain⟨rfl,_⟩:=hv.cX;have hlen:ds.length=fn.params.size:=tn (TW U)
 refine⟨_,rfl,ds,[],_,[],p,[],hW',?_,?_,?_,hk.frame _,λh=>by cases h⟩
 .rw[append_nil,hs ds hlen,pC];exact⟨[],[],⟨1,by simp[DataW.trod,Value.cells,hb]⟩,rfl,rfl⟩
 .rw[append_nil,hs ds hlen];exact Tv J hk O U
 .rw[append_nil,hs ds hlen,ZJ];rfl
end Go.Abs
namespace Go.Abs
open List
open Go.Proofs.Tryz
open Go
abbrev mE:Sh:=.int .i64
abbrev H4:Sh:=.int .u8
abbrev Ht:Sh:=.pair H4 (.pair mE (.pair mE (.pair mE (.pair mE (.pair (.sl mE) .unit)))))
abbrev KR:Sh:=.pair .str (.pair mE .unit)
abbrev Lm:Sh:=.pair H4 (.pair mE (.pair mE (.pair mE (.pair mE (.pair .str (.pair Ht (.pair (.sl mE) (.pair (.sl KR) (.pair mE .unit)))))))))
abbrev Kq:Sh:=.pair (.sl Ht) (.pair Lm .unit)
abbrev zR:Sh:=.pair .str (.pair .bool (.pair mE (.pair H4 (.pair (.sl H4) (.pair (.sl H4) (.pair (.sl .str) (.pair (.sl Kq) .unit)))))))
def QJ(x:Ht.val):Ins:=⟨x.1,x.2.1,x.2.2.1,x.2.2.2.1,x.2.2.2.2.1,x.2.2.2.2.2.1⟩
def Yq(x:KR.val):iO:=⟨x.1,x.2.1⟩
def ZI(x:Lm.val):End:=⟨x.1,x.2.1,x.2.2.1,x.2.2.2.1,x.2.2.2.2.1,x.2.2.2.2.2.1,QJ x.2.2.2.2.2.2.1,x.2.2.2.2.2.2.2.1,map Yq x.2.2.2.2.2.2.2.2.1,x.2.2.2.2.2.2.2.2.2.1⟩
def Xh(x:Kq.val):bH:=⟨map QJ x.1,ZI x.2.1⟩
def Yr(x:zR.val):aO:=⟨x.1,x.2.1,x.2.2.1,x.2.2.2.1,x.2.2.2.2.1,x.2.2.2.2.2.1,x.2.2.2.2.2.2.1,map Xh x.2.2.2.2.2.2.2.1⟩
def G8{k:IntKind}(l:List Int):D.sl (flatMap (Sh.enc (.int k)) l) l.length=.sl (l.map λn=>.s (.int k n)) l.length:=congrArg (D.sl · l.length) (OA (λn=>D.s (.int k n)) l)
def ajG(l:List ByteArray):D.sl (flatMap (Sh.enc .str) l) l.length=io l:=congrArg (D.sl · l.length) (OA S l)
def QK{s:Sh}{β:Type}{g:β->List D}{h:s.val->β}(he:∀ x,s.enc x=g (h x))(l:List s.val):D.sl (flatMap s.enc l) l.length=.sl ((l.map h).flatMap g) (l.map h).length:=by
 rw[Ga he l,length_map]
def c1'{α β:Type}(f:α->β){a a':α}(h:a=a'):f a=f a':=by rw[h]
def c2'{α β γ:Type}(f:α->β->γ){a a':α}{b C:β}(h:a=a')(h2:b=C):f a b=f a' C:=by rw[h,h2]
def c3'{α β γ δ:Type}(f:α->β->γ->δ){a a':α}{b C:β}{c c':γ}(h:a=a')(h2:b=C)(J:c=c'):f a b c=f a' C c':=by rw[h,h2,J]
def c4'{α β γ δ ε:Type}(f:α->β->γ->δ->ε){a a':α}{b C:β}{c c':γ}{d d':δ}(h:a=a')(h2:b=C)(J:c=c')(O:d=d'):f a b c d=f a' C c' d':=by rw[h,h2,J,O]
def VZ(l:List Int):(Sh.sl mE).arg l=av l:=G8 l
def Xi(x:Ht.val):Ht.enc x=aI (QJ x):=
 c1' (λq=>[U8 x.1,I x.2.1,I x.2.2.1,I x.2.2.2.1,I x.2.2.2.2.1,q]) (G8 (k:=.i64) x.2.2.2.2.2.1)
def ahC(x:KR.val):KR.enc x=cK (Yq x):=rfl
def aiQ(x:Lm.val):Lm.enc x=aR (ZI x):=
 c3' (λa b c=>[U8 x.1,I x.2.1,I x.2.2.1,I x.2.2.2.1,I x.2.2.2.2.1,S x.2.2.2.2.2.1]++(a++[b,c,I x.2.2.2.2.2.2.2.2.2.1])) (Xi x.2.2.2.2.2.2.1) (G8 (k:=.i64) x.2.2.2.2.2.2.2.1) (QK ahC x.2.2.2.2.2.2.2.2.1)
def afQ(x:Kq.val):Kq.enc x=bq (Xh x):=by
 have:=c2' (λa b=>a::(b++[])) (QK Xi x.1) (aiQ x.2.1);apply Eq.trans this;rw[append_nil];rfl
def ahe(x:zR.val):zR.arg x=.agg (aG (Yr x)):=
 c4' (λa b c d=>D.agg [S x.1,B x.2.1,I x.2.2.1,U8 x.2.2.2.1,a,b,c,d]) (G8 (k:=.u8) x.2.2.2.2.1) (G8 (k:=.u8) x.2.2.2.2.2.1) (ajG x.2.2.2.2.2.2.1) (QK afQ x.2.2.2.2.2.2.2.1)
end Go.Abs
namespace Go.Proofs.YtkogeiacmmckkaaGreatDoor
open List
open Go.Abs Go.Proofs.Tryz
open Go
set_option maxRecDepth 100000
def aql:ownKnob prog.godebug=none:=kr
def laidOut:laidOutB prog=true:=kr
def ano: prog.underlying 4=some .bool:=kr
abbrev Ab:List (String×DataW Unit):=Rows.flowReadsRow.laid
def Ys:List Int:=[1,10,100,1000,10000,100000,1000000,10000000,100000000,1000000000,10000000000,100000000000,1000000000000,10000000000000,100000000000000,1000000000000000,10000000000000000,100000000000000000,1000000000000000000,10000000000000000000]
def ad5:∃ nm,(nm,DataW.agg (Ys.map λn=>DataW.lit (.int .u64 n)))∈Ab/\ prog.globalNamed nm=some 0:=⟨_,.tail _ (.tail _ (.head _)),by kernel_rfl⟩
def Uj(w:World):laidMetH prog Ab w=laidMet prog Ab w:=MakeChecks.laidMetH_plain _ _ _ kr
def aiF{W:World}(h:laidMetH prog Ab W):FB (λb=>b=0) W/\Hs (λb=>b=0) W:=by
 rw[Uj] at h;let⟨nm,hm,hg⟩:=ad5;let⟨ty,ht⟩:=ad6 (t:=200) (e:=199) h hm hg kr kr kr kr kr oC;refine⟨⟨λb hb=>?_,λt C=>?_⟩,λb o u hb hu=>?_⟩
 .subst hb;exact(Array.getElem?_eq_some_iff.1 ht).1
 .simp[Ad,mem_singleton] at C;subst C;exact⟨rfl,ty,_,ht⟩
 .subst hb;unfold World.cell? at hu;rw[ht] at hu;simp only at hu;have hu:((Ys.map (Value.int .u64 ·)).toArray)[o]? =some u:=hu;rw[getElem?_toArray,getElem?_map] at hu;obtain⟨n,_,rfl⟩:=eg.1 hu;exact⟨n,rfl⟩
def aqw:DataW Unit->Value
 | .lit (.int k n)=>.int k n
 |_=>undef
def aqx:DataW Unit->Array Value
 | .agg ps=>(ps.map aqw).toArray
 |_=> #[]
def U6(os:Os):World:=
 let C:=World.holding prog os ⟨#[], #[],[]⟩
 let f (d:DataW Unit):Obj->Obj:=λ
     | .cells _ t frozen=>.cells (aqx d) t frozen
     |o=>o
 { C with heap:=((C.heap.modify 0 (f Rows.laid_internal_strconv_uint64pow10)).modify 6 (f Rows.laid_math_bits_deBruijn32tab)).modify 7 (f Rows.laid_math_bits_deBruijn64tab) }
def acK(os:Os)(args:Array Value):laidMetH prog Ab ((U6 os).forCall (λ_ _=>0) ⟨#[],args,[]⟩).memory:=by
 rw[Uj];exact laidMet_of_run' 8 kr kr
end Go.Proofs.YtkogeiacmmckkaaGreatDoor
namespace Go.Abs
open List
open Go
structure Et(f:aO):Prop where
 res:0<=f.result
 nm:f.name.size<=maxLen
 sg:∀ s∈f.signals,s.size<=maxLen
 en:∀ b∈f.blocks,b.fin.name.size<=maxLen/\∀ w∈b.fin.aA,w.name.size<=maxLen
class V{α:Type}(x:α)(y:outParam α):Prop where h:x=y
section
variable{P:Program}{Y:iz}{ops:Array Oper}{dr:Bool}{cf:List (Nat×Nat)}{Q:Exit->St->Prop}{r:List Oper}{v:Env}{m:Mem}{n:Nat}{q:o0}{x:Oper}{s:St}{e:List Nat×List Nat}
variable{t:Option Nat}{u:Nat}{ty:TypeId}{pos:String}{after:Array Edge}{j:Nat}{b c:Bool}{op:Op}
def SO(P:Program)(Y:iz)(ops:Array Oper)(dr:Bool)(o:Oper)(v:Env)(m:Mem)(n:Nat)(s:St)(e:List Nat×List Nat):Prop:=
 ∀ cf Q r q,aJ P Y ops dr cf Q r s (q++[e])->aJ P Y ops dr cf Q (o::r) ⟨v,m,n⟩ q
def ak{l:List Operand}(h:kP v l:=by repeat' (first|exact trivial|exact hc|exact rfl|refine And.intro ?_ ?_)):kP v l:=h
def z(K:∀ (x:D) rd,aJ P Y ops dr cf Q r (St.put ⟨v,m,n⟩ t (.dq false x)) (q++[(rd,[])]))(hj:(ops[j]?).bind (·.dst)=some u:=by exact rfl)(hg:mA (v u) b=some false:=by exact rfl):
 aJ P Y ops dr cf Q (⟨t,op,ty,pos,after,some (j,b)⟩::r) ⟨v,m,n⟩ q:=Y7 hj hg K
def cl{f:FuncId}{gs:List D}{d:D}{t:Nat}(h:aE P f gs d)(K:aJ P Y ops dr cf Q r ⟨up v t d,m,n⟩ (q++[([],[])]))(hc:eB (bS v op) op=some (f,gs):=by exact rfl)(ha:kP v op.operands.toList:=by exact ak):
 aJ P Y ops dr cf Q (⟨some t,op,ty,pos,after,none⟩::r) ⟨v,m,n⟩ q:=z1 h hc ha K
def gc{f:FuncId}{gs:List D}{d:D}{t:Nat}(h:aE P f gs d)(K:aJ P Y ops dr cf Q r ⟨up v t (.dq c d),m,n⟩ (q++[([],[])]))(hj:(ops[j]?).bind (·.dst)=some u:=by exact rfl)(hg:mA (v u) b=some c:=by exact rfl)(hl:eB (bS v op) op=some (f,gs):=by exact rfl)(ha:c=true->kP v op.operands.toList:=by exact λhc=>ak):
 aJ P Y ops dr cf Q (⟨some t,op,ty,pos,after,some (j,b)⟩::r) ⟨v,m,n⟩ q:=BG hj hg hl (λhc=>⟨ha hc,h⟩) K
def apE(K:aJ P Y ops dr cf Q r s (q++[e]))(h:SO P Y ops dr x v m n s e:=by intro _ _ _ _ k;exact cq rfl rfl (dL (vs:=aI _) rfl rfl V.h V.h rfl) (λhc=>⟨ak,(dN V.h V.h (by first|(simp;done)|omega|exact aP rfl))⟩) k):aJ P Y ops dr cf Q (x::r) ⟨v,m,n⟩ q:=h _ _ _ _ K
def aax(K:aJ P Y ops dr cf Q r s (q++[e]))(h:SO P Y ops dr x v m n s e:=by intro _ _ _ _ k;exact ax (XW rfl rfl yE) ak rfl k):aJ P Y ops dr cf Q (x::r) ⟨v,m,n⟩ q:=h _ _ _ _ K
def aty(K:aJ P Y ops dr cf Q r s (q++[e]))(h:SO P Y ops dr x v m n s e:=by intro _ _ _ _ k;exact cq rfl rfl (dL (vs:=aR _) rfl rfl V.h V.h rfl) (λhc=>⟨ak,(dN V.h V.h (by first|(simp;done)|omega|exact aP rfl))⟩) k):aJ P Y ops dr cf Q (x::r) ⟨v,m,n⟩ q:=h _ _ _ _ K
def aaA(K:aJ P Y ops dr cf Q r s (q++[e]))(h:SO P Y ops dr x v m n s e:=by intro _ _ _ _ k;exact ax (Xl rfl rfl) ak aa k):aJ P Y ops dr cf Q (x::r) ⟨v,m,n⟩ q:=h _ _ _ _ K
variable{rf:Bool}{W:Exit->St->Prop}{o:Array Oper}{B:Code}{i:Nat}{k:St}
def ws[fD Y](h:aJ P Y o false [] (iN λk=>AW P Y rf B W k) o.toList k []):AW P Y rf (.seq (.region i o false) B) W k:=aj h
def er[fD Y](h:aJ P Y o false [] (iN λk=>AW P Y rf B W k) o.toList k []):aJ P Y ops dr [] (iN λk=>AW P Y rf (.seq (.region i o false) B) W k) [] k q:=ab (aj h)
end
end Go.Abs
namespace Go.Abs
open List
open Go.Proofs.Tryz
open Go
def ajy(x:zR.val)(h:zR.ok x):Et (Yr x):=by
 let⟨h1,_,_,J,_,_,O,U,_⟩:=h;refine⟨?_,h1,λs hs=>?_,λb hb=>?_⟩
 .have:(Lit.int .u8 x.2.2.2.1).wf=true:=J;simp only[Lit.wf,aH] at this;exact of_decide_eq_true this.1
 .exact O s hs
 .obtain⟨y,hy,rfl⟩:=mem_map.1 hb;let⟨_,C,_⟩:=U y hy;let⟨_,_,_,_,_,e6,_,_,e9,_,_⟩:=C;refine⟨e6,λw X=>?_⟩;obtain⟨z,hz,rfl⟩:=mem_map.1 X;exact(e9 z hz).1
def a1:bM prog 1=false:=kr
def t1:aT prog 1=true:=kr
def b1:prog.bytesOf 1=8:=kr
def b2:prog.bytesOf 2=8:=kr
def a2:bM prog 2=false:=kr
def t2:aT prog 2=true:=kr
def z2:bm prog 2=[.s (.int .i64 0)]:=kr
def c3:prog.cellsOf 3=1:=kr
def b3:prog.bytesOf 3=8:=kr
def a3:bM prog 3=false:=kr
def t3:aT prog 3=true:=kr
def z3:bm prog 3=[.s (.int .i64 0)]:=kr
def c4:prog.cellsOf 4=1:=kr
def b4:prog.bytesOf 4=1:=kr
def a4:bM prog 4=false:=kr
def t4:aT prog 4=true:=kr
def z4:bm prog 4=[.s (.bool false)]:=kr
def c5:prog.cellsOf 5=1:=kr
def b5:prog.bytesOf 5=1:=kr
def a5:bM prog 5=false:=kr
def t5:aT prog 5=true:=kr
def z5:bm prog 5=[.s (.int .u8 0)]:=kr
def b6:prog.bytesOf 6=1:=kr
def c9:prog.cellsOf 9=1:=kr
def b9:prog.bytesOf 9=16:=kr
def a9:bM prog 9=false:=kr
def t9:aT prog 9=true:=kr
def z9:bm prog 9=[.s (.string "".toUTF8)]:=kr
def IP:aK prog 15=381:=kr
def IQ:aK prog 16=384:=kr
def IN:aK prog 17=392:=kr
def a22:bM prog 22=false:=kr
def t22:aT prog 22=true:=kr
def z22:bm prog 22=[.z]:=kr
def SB:aK prog 22=5:=kr
def HM:bE prog 22=true:=kr
def wW:aK prog 23=9:=kr
def LG:bE prog 23=true:=kr
def CO:prog.cellsOf 24=1:=kr
def a24:bM prog 24=false:=kr
def t24:aT prog 24=true:=kr
def z24:bm prog 24=[.z]:=kr
def Mr:aK prog 24=69:=kr
def LH:bE prog 24=true:=kr
def a25:bM prog 25=true:=kr
def t25:aT prog 25=true:=kr
def z25:bm prog 25=[.s (.string "".toUTF8),.s (.bool false),.s (.int .i64 0),.s (.int .u8 0),.z,.z,.z,.z]:=kr
def iS:prog.cellsOf 26=8:=kr
def a26:bM prog 26=true:=kr
def t26:aT prog 26=true:=kr
def a31:bM prog 31=false:=kr
def t31:aT prog 31=true:=kr
def z31:bm prog 31=[.z]:=kr
def vy:aK prog 31=26:=kr
def jC:prog.cellsOf 35=1:=kr
def S3:prog.bytesOf 35=24:=kr
def a35:bM prog 35=false:=kr
def t35:aT prog 35=true:=kr
def dC:aK prog 35=3:=kr
def dK:bE prog 35=true:=kr
def a37:bM prog 37=true:=kr
def t37:aT prog 37=true:=kr
def z37:bm prog 37=[.s (.int .u8 0),.s (.int .i64 0)]:=kr
def a39:bM prog 39=true:=kr
def t39:aT prog 39=true:=kr
def z39:bm prog 39=[.s (.int .u8 0),.s (.string "".toUTF8),.s (.int .u8 0),.s (.int .i64 0),.z,.s (.int .i64 0)]:=kr
def kG:prog.cellsOf 45=6:=kr
def Mq:prog.bytesOf 45=64:=kr
def a45:bM prog 45=true:=kr
def t45:aT prog 45=true:=kr
def z45:bm prog 45=[.s (.int .u8 0),.s (.int .i64 0),.s (.int .i64 0),.s (.int .i64 0),.s (.int .i64 0),.z]:=kr
def Qy:du prog 45 2=some (2,3):=kr
def Qz:du prog 45 3=some (3,3):=kr
def Hn:du prog 45 5=some (5,35):=kr
def SL:prog.cellsOf 46=1:=kr
def a46:bM prog 46=false:=kr
def t46:aT prog 46=true:=kr
def z46:bm prog 46=[.z]:=kr
def SC:aK prog 46=82:=kr
def HN:bE prog 46=true:=kr
def rP:prog.cellsOf 48=15:=kr
def FG:bM prog 48=true:=kr
def t48:aT prog 48=true:=kr
def QA:du prog 48 7=some (12,35):=kr
def a50:bM prog 50=false:=kr
def t50:aT prog 50=true:=kr
def z50:bm prog 50=[.s .nilFunc]:=kr
def a51:bM prog 51=false:=kr
def t51:aT prog 51=true:=kr
def z51:bm prog 51=[.s .nilFunc]:=kr
def a53:bM prog 53=false:=kr
def t53:aT prog 53=true:=kr
def z53:bm prog 53=[.s .nilFunc]:=kr
def a55:bM prog 55=false:=kr
def t55:aT prog 55=true:=kr
def z55:bm prog 55=[.s .nilFunc]:=kr
def CZ:prog.cellsOf 63=1:=kr
def IM:bM prog 63=false:=kr
def t63:aT prog 63=true:=kr
def CY:aK prog 63=4:=kr
def Ch:bE prog 63=true:=kr
def a66:bM prog 66=false:=kr
def t66:aT prog 66=true:=kr
def z66:bm prog 66=[.s .nilFunc]:=kr
def SG:prog.cellsOf 67=1:=kr
def t67:aT prog 67=true:=kr
def Mp:aK prog 67=45:=kr
def LF:bE prog 67=true:=kr
def mN:prog.cellsOf 69=16:=kr
def CN:prog.bytesOf 69=200:=kr
def FC:bM prog 69=true:=kr
def t69:aT prog 69=true:=kr
def z69:bm prog 69=[.z,.s (.int .u8 0),.s (.int .i64 0),.s (.int .i64 0),.s (.int .i64 0),.s (.int .i64 0),.s (.string "".toUTF8),.s (.int .u8 0),.s (.int .i64 0),.s (.int .i64 0),.s (.int .i64 0),.s (.int .i64 0),.z,.z,.z,.s (.int .i64 0)]:=kr
def a70:bM prog 70=false:=kr
def t70:aT prog 70=true:=kr
def z70:bm prog 70=[.s .nilFunc]:=kr
def a72:bM prog 72=false:=kr
def t72:aT prog 72=true:=kr
def z72:bm prog 72=[.s .nilFunc]:=kr
def a75:bM prog 75=false:=kr
def t75:aT prog 75=true:=kr
def z75:bm prog 75=[.s .nilFunc]:=kr
def a76:bM prog 76=false:=kr
def t76:aT prog 76=true:=kr
def z76:bm prog 76=[.s .nilFunc]:=kr
def FA:prog.cellsOf 82=2:=kr
def SD:prog.bytesOf 82=24:=kr
def c93:prog.cellsOf 93=10:=kr
def a93:bM prog 93=true:=kr
def t93:aT prog 93=true:=kr
def c96:prog.cellsOf 96=1:=kr
def t96:aT prog 96=true:=kr
def oe:prog.cellsOf 99=2:=kr
def b99:prog.bytesOf 99=32:=kr
def vw:bM prog 99=true:=kr
def t99:aT prog 99=true:=kr
def Ta:bm prog 99=[.s (.bool false),.z]:=kr
def Qw:du prog 99 0=some (0,4):=kr
def Qx:du prog 99 1=some (1,63):=kr
def a127:bM prog 127=false:=kr
def t127:aT prog 127=true:=kr
def z127:bm prog 127=[.z]:=kr
def a164:bM prog 164=false:=kr
def t164:aT prog 164=true:=kr
def z164:bm prog 164=[.s .nilFunc]:=kr
def a171:bM prog 171=false:=kr
def t171:aT prog 171=true:=kr
def z171:bm prog 171=[.s .nilFunc]:=kr
def a173:bM prog 173=true:=kr
def t173:aT prog 173=true:=kr
def z173:bm prog 173=[]:=kr
def uD:prog.cellsOf 201=20:=kr
def aay:prog.bytesOf 201=160:=kr
def a201:bM prog 201=true:=kr
def t201:aT prog 201=true:=kr
def z201:bm prog 201=[.s (.int .u64 0),.s (.int .u64 0),.s (.int .u64 0),.s (.int .u64 0),.s (.int .u64 0),.s (.int .u64 0),.s (.int .u64 0),.s (.int .u64 0),.s (.int .u64 0),.s (.int .u64 0),.s (.int .u64 0),.s (.int .u64 0),.s (.int .u64 0),.s (.int .u64 0),.s (.int .u64 0),.s (.int .u64 0),.s (.int .u64 0),.s (.int .u64 0),.s (.int .u64 0),.s (.int .u64 0)]:=kr
def a212:bM prog 212=false:=kr
def t212:aT prog 212=true:=kr
def z212:bm prog 212=[.s .nilFunc]:=kr
def a213:bM prog 213=false:=kr
def t213:aT prog 213=true:=kr
def z213:bm prog 213=[.s (.map none)]:=kr
def a233:bM prog 233=false:=kr
def t233:aT prog 233=true:=kr
def z233:bm prog 233=[.s .nilFunc]:=kr
def HK:bM prog 235=true:=kr
def HL:bm prog 235=[.s (.int .i64 0),.s (.int .i64 0),.s (.int .i64 0),.s (.int .i64 0),.s (.int .i64 0),.s (.int .i64 0)]:=kr
def mixed:prog.follows .mixedOrders=true:=kr
section
def bo(f:Func):Code:=(f.body).getD .skip
variable{o:Array Oper}
def ij(c:List (Nat×Nat))(h:bV o=some c:=by kernel_rfl):bV o=some c:=h
def iB(h:bV o=some []:=by kernel_rfl):bV o=some []:=h
abbrev FO(n:FuncId)(f:Func):=yA prog n f (bo f)
def fo(f:Func){n:FuncId}(h1:prog.funcs[n]? =some f:=by kernel_rfl)(h2:f.body=some (bo f):=by kernel_rfl)(C:gG f.ntmps (bo f)=true:=by kernel_rfl)(J:nB prog n=true:=by kernel_rfl):FO n f:=⟨h1,h2,C,J⟩
def zO:=bo f88
def Bp:=bo f174
def Bq:=bo f175
def Br:=bo f179
variable{fn:Func}{c:Code}{args:List D}
def bN{f:FuncId}(hf:yA prog f fn c)(ht:∀ a∈args,Tr a){r:D}(hr:Tr r)(h:AW prog nk true c (lE prog fn.results.toList λd _=>d=r) ⟨mW args,λ_=>none,0⟩)(hn:Nat.ble args.length fn.ntmps=true:=by kernel_rfl):aE prog f args r:=af0 mixed hf hn ht hr h
variable{f:FuncId}
def y6(hf:yA prog f fn c)(ht:∀ a∈args,Tr a){es:List D}(C:∀ a∈es,Tr a){k:Nat}{t:TypeId}(h:AW prog nk true c (lE prog fn.results.toList λd st=>∃ i,d=.rs i 0 k∧st.mem i=some (.cells es t)) ⟨mW args,λ_=>none,0⟩)(hn:Nat.ble args.length fn.ntmps=true:=by kernel_rfl):mV prog f args es k t:=af1 mixed hf hn ht C h
def y8(hf:yA prog f fn c){m:Mem}{nx:Nat}{dV:D->Mem->Nat->Prop}(h:AW prog nk true c (lE prog fn.results.toList λd st=>dV d st.mem st.nx) ⟨mW args,m,nx⟩)(hn:Nat.ble args.length fn.ntmps=true:=by kernel_rfl):iZ prog f args m nx dV:=afZ mixed hf hn h
end
def gX(P:Program)(t:TypeId):Array Field:=match P.underlying t with|some (.struct fs)=>fs|_=> #[]
def u5:prog.underlying 5=some (.int .u8):=kr
def u8:prog.underlying 8=some (.struct (gX prog 8)):=kr
def u69:prog.underlying 69=some (.struct (gX prog 69)):=kr
def aav:((gX prog 69).toList.map λf=>(f.offset,prog.cellsOf f.type))=[(0,1),(1,15)]:=kr
def aaw:((gX prog 69).toList.all λf=>(prog.info? f.type).isSome)=true:=kr
def HJ:uy prog 91=235:=kr
def u99:prog.underlying 99=some (.struct (gX prog 99)):=kr
def aaC:((gX prog 99).toList.map λf=>(f.offset,prog.cellsOf f.type))=[(0,1),(1,1)]:=kr
def aaD:((gX prog 99).toList.all λf=>(prog.info? f.type).isSome)=true:=kr
def Qs:jb prog 193=3:=kr
def Qt:lD prog 193=true:=kr
def zf(i:Nat):Code->Option (Array Oper)
 | .region j o _=>bif Nat.beq i j then some o else none
 | .seq a b=>match zf i a with
  |some x=>some x
  |none=>zf i b
 | .cond _ a b=>match zf i a with
  |some x=>some x
  |none=>zf i b
 | .block _ b=>zf i b
 | .loop b=>zf i b
 | .scope b=>zf i b
 | .rangeFunc _ _ a b=>match zf i a with
  |some x=>some x
  |none=>zf i b
 |_=>none
def Z(b:Code)(i:Nat):Array Oper:=(zf i b).getD #[]
end Go.Abs
namespace Go.Abs
open List
section
variable{P:Program}
end
section
variable{P:Program}{F F':Nat->Prop}{m:Mem}{nx:Nat}{β β':aN}{w w':World}
end
section
variable{P:Program}{m:Mem}{nx:Nat}
def less(bP:List Nat)(m:Mem):Mem:=λi=>if i∈bP then none else m i
def mV.Kw{f:FuncId}{args es:List D}{n:Nat}{t:TypeId}(h:mV P f args es n t)(ht:Tr (.sl (es.take (n*P.cellsOf t)) n)):aE P f args (.sl (es.take (n*P.cellsOf t)) n):=by
 refine⟨h.1,h.2.1,λF w vs C hR=>(h.2.2 F w vs C hR).mono ?_⟩;rintro e w' ⟨v,p,h1,h2,U,X,h5,J⟩;refine⟨v,h1,?_,J⟩
 have b0:∀ {i q},up iE 0 (some p) i=some q->i=0/\q=p:=λ{i q} hi=>by
  by_cases e:i=0
  .subst e;rw[ap] at hi;cases hi;exact⟨rfl,rfl⟩
  .rw[aW _ _ e] at hi;cases hi
 have hm:aQ P F (up (λ_=>none) 0 (some (.cells es t))) (up iE 0 (some p)) w':=by
  refine⟨λi r hi=>?_,λi j q q' b hq iP _ _=>(b0 hq).1.trans (b0 iP).1.symm,λi q b hq e=>?_,λi q b hq e=>?_,C.next (λb hb=>Nat.lt_of_lt_of_le (C.lt b hb) J.1) (λ_ h=>h) λ_ _ hb=>J.2.1 _ (C.lt _ hb)⟩
  .by_cases e:i=0
   .subst e;rw[ap] at hi;cases hi;refine⟨p,ap _ _ _,X.gen (bK _) (λb _ O _=>⟨oB.refl w' b,λi q hq hb=>?_,λC=>O (.inl C)⟩) (λi q _ hq=>by cases hq) λ_ _=>rfl⟩;exact O (.inr ((b0 hq).2▸hb))
   .rw[aW _ _ e] at hi;cases hi
  .rw[(b0 hq).2] at e;exact(U b e).2
  .rw[(b0 hq).2] at e;intro hb;have:=C.lt b hb;have:=(U b e).1;omega
 have:=Vm hm s3 rfl h5;have e:cZ 0 es (P.cellsOf t) (.rs 0 0 n)=.sl (es.take (n*P.cellsOf t)) n:=by simp[cZ]
 rw[e] at this;exact ht.KX this
end
end Go.Abs
def eH{p:Prop}(h:p:=by repeat' (first|exact trivial|exact rfl|refine And.intro ?_ ?_)):p:=h
namespace Go.Abs
open List
open Go.Proofs.Tryz
open Go
def kR{α:Sort _}{a b:α}(h:a=b:=by kernel_rfl):a=b:=h
abbrev iT(n:Nat):=V (bM prog n)
abbrev j0(n:Nat):=V (aT prog n)
abbrev kj(n:Nat):=V (bm prog n)
abbrev kn(n:Nat):=V (aK prog n)
abbrev lx(n:Nat):=V (bE prog n)
abbrev nu(n:Nat):=V (prog.cellsOf n)
abbrev o5(n:Nat):=V (prog.bytesOf n)
abbrev pb(n:Nat):=V (prog.underlying n)
instance:nu 1 1:=⟨kR⟩
instance:iT 1 false:=⟨a1⟩
instance:j0 1 true:=⟨t1⟩
instance:o5 1 8:=⟨b1⟩
instance:nu 2 1:=⟨kR⟩
instance:o5 2 8:=⟨b2⟩
instance:iT 2 false:=⟨a2⟩
instance:j0 2 true:=⟨t2⟩
instance:kj 2 [.s (.int .i64 0)]:=⟨z2⟩
instance:nu 3 1:=⟨c3⟩
instance:o5 3 8:=⟨b3⟩
instance:iT 3 false:=⟨a3⟩
instance:j0 3 true:=⟨t3⟩
instance:kj 3 [.s (.int .i64 0)]:=⟨z3⟩
instance:nu 4 1:=⟨c4⟩
instance:o5 4 1:=⟨b4⟩
instance:iT 4 false:=⟨a4⟩
instance:j0 4 true:=⟨t4⟩
instance:kj 4 [.s (.bool false)]:=⟨z4⟩
instance:V (uQ prog 4) true:=⟨kR⟩
instance:nu 5 1:=⟨c5⟩
instance:o5 5 1:=⟨b5⟩
instance:iT 5 false:=⟨a5⟩
instance:j0 5 true:=⟨t5⟩
instance:kj 5 [.s (.int .u8 0)]:=⟨z5⟩
instance:o5 6 1:=⟨b6⟩
instance:nu 9 1:=⟨c9⟩
instance:o5 9 16:=⟨b9⟩
instance:iT 9 false:=⟨a9⟩
instance:j0 9 true:=⟨t9⟩
instance:kj 9 [.s (.string "".toUTF8)]:=⟨z9⟩
instance:V (gR prog 9) true:=⟨kR⟩
instance:kn 15 381:=⟨IP⟩
instance:kn 16 384:=⟨IQ⟩
instance:kn 17 392:=⟨IN⟩
instance:nu 22 1:=⟨kR⟩
instance:iT 22 false:=⟨a22⟩
instance:j0 22 true:=⟨t22⟩
instance:kj 22 [.z]:=⟨z22⟩
instance:kn 22 5:=⟨SB⟩
instance:lx 22 true:=⟨HM⟩
instance:nu 23 1:=⟨kR⟩
instance:iT 23 false:=⟨kR⟩
instance:j0 23 true:=⟨kR⟩
instance:kn 23 9:=⟨wW⟩
instance:lx 23 true:=⟨LG⟩
instance:nu 24 1:=⟨CO⟩
instance:iT 24 false:=⟨a24⟩
instance:j0 24 true:=⟨t24⟩
instance:kj 24 [.z]:=⟨z24⟩
instance:kn 24 69:=⟨Mr⟩
instance:lx 24 true:=⟨LH⟩
instance:iT 25 true:=⟨a25⟩
instance:j0 25 true:=⟨t25⟩
instance:kj 25 [.s (.string "".toUTF8),.s (.bool false),.s (.int .i64 0),.s (.int .u8 0),.z,.z,.z,.z]:=⟨z25⟩
instance:nu 26 8:=⟨iS⟩
instance:iT 26 true:=⟨a26⟩
instance:j0 26 true:=⟨t26⟩
instance:kj 26 [.s (.string "".toUTF8),.s (.bool false),.s (.int .i64 0),.s (.int .u8 0),.z,.z,.z,.z]:=⟨kR⟩
instance:V (du prog 26 0) (some (0,9)):=⟨kR⟩
instance:V (du prog 26 1) (some (1,4)):=⟨kR⟩
instance:V (du prog 26 2) (some (2,3)):=⟨kR⟩
instance:V (du prog 26 3) (some (3,5)):=⟨kR⟩
instance:V (du prog 26 4) (some (4,22)):=⟨kR⟩
instance:V (du prog 26 5) (some (5,22)):=⟨kR⟩
instance:V (du prog 26 6) (some (6,23)):=⟨kR⟩
instance:V (du prog 26 7) (some (7,24)):=⟨kR⟩
instance:iT 31 false:=⟨a31⟩
instance:j0 31 true:=⟨t31⟩
instance:kj 31 [.z]:=⟨z31⟩
instance:kn 31 26:=⟨vy⟩
instance:nu 35 1:=⟨jC⟩
instance:o5 35 24:=⟨S3⟩
instance:iT 35 false:=⟨a35⟩
instance:j0 35 true:=⟨t35⟩
instance:kj 35 [.z]:=⟨kR⟩
instance:kn 35 3:=⟨dC⟩
instance:lx 35 true:=⟨dK⟩
instance:iT 37 true:=⟨a37⟩
instance:j0 37 true:=⟨t37⟩
instance:kj 37 [.s (.int .u8 0),.s (.int .i64 0)]:=⟨z37⟩
instance:iT 39 true:=⟨a39⟩
instance:j0 39 true:=⟨t39⟩
instance:kj 39 [.s (.int .u8 0),.s (.string "".toUTF8),.s (.int .u8 0),.s (.int .i64 0),.z,.s (.int .i64 0)]:=⟨z39⟩
instance:nu 45 6:=⟨kG⟩
instance:o5 45 64:=⟨Mq⟩
instance:iT 45 true:=⟨a45⟩
instance:j0 45 true:=⟨t45⟩
instance:kj 45 [.s (.int .u8 0),.s (.int .i64 0),.s (.int .i64 0),.s (.int .i64 0),.s (.int .i64 0),.z]:=⟨z45⟩
instance:V (du prog 45 0) (some (0,5)):=⟨kR⟩
instance:V (du prog 45 1) (some (1,3)):=⟨kR⟩
instance:V (du prog 45 2) (some (2,3)):=⟨Qy⟩
instance:V (du prog 45 3) (some (3,3)):=⟨Qz⟩
instance:V (du prog 45 4) (some (4,3)):=⟨kR⟩
instance:V (du prog 45 5) (some (5,35)):=⟨Hn⟩
instance:nu 46 1:=⟨SL⟩
instance:iT 46 false:=⟨a46⟩
instance:j0 46 true:=⟨t46⟩
instance:kj 46 [.z]:=⟨z46⟩
instance:kn 46 82:=⟨SC⟩
instance:lx 46 true:=⟨HN⟩
instance:nu 48 15:=⟨rP⟩
instance:iT 48 true:=⟨FG⟩
instance:j0 48 true:=⟨t48⟩
instance:kj 48 [.s (.int .u8 0),.s (.int .i64 0),.s (.int .i64 0),.s (.int .i64 0),.s (.int .i64 0),.s (.string "".toUTF8),.s (.int .u8 0),.s (.int .i64 0),.s (.int .i64 0),.s (.int .i64 0),.s (.int .i64 0),.z,.z,.z,.s (.int .i64 0)]:=⟨kR⟩
instance:V (du prog 48 0) (some (0,5)):=⟨kR⟩
instance:V (du prog 48 1) (some (1,3)):=⟨kR⟩
instance:V (du prog 48 2) (some (2,3)):=⟨kR⟩
instance:V (du prog 48 3) (some (3,3)):=⟨kR⟩
instance:V (du prog 48 4) (some (4,3)):=⟨kR⟩
instance:V (du prog 48 5) (some (5,9)):=⟨kR⟩
instance:V (du prog 48 6) (some (6,45)):=⟨kR⟩
instance:V (du prog 48 7) (some (12,35)):=⟨QA⟩
instance:V (du prog 48 8) (some (13,46)):=⟨kR⟩
instance:V (du prog 48 9) (some (14,3)):=⟨kR⟩
instance:iT 50 false:=⟨a50⟩
instance:j0 50 true:=⟨t50⟩
instance:kj 50 [.s .nilFunc]:=⟨z50⟩
instance:iT 51 false:=⟨a51⟩
instance:j0 51 true:=⟨t51⟩
instance:kj 51 [.s .nilFunc]:=⟨z51⟩
instance:iT 53 false:=⟨a53⟩
instance:j0 53 true:=⟨t53⟩
instance:kj 53 [.s .nilFunc]:=⟨z53⟩
instance:iT 55 false:=⟨a55⟩
instance:j0 55 true:=⟨t55⟩
instance:kj 55 [.s .nilFunc]:=⟨z55⟩
instance:nu 63 1:=⟨CZ⟩
instance:iT 63 false:=⟨IM⟩
instance:j0 63 true:=⟨t63⟩
instance:kn 63 4:=⟨CY⟩
instance:lx 63 true:=⟨Ch⟩
instance:iT 66 false:=⟨a66⟩
instance:j0 66 true:=⟨t66⟩
instance:kj 66 [.s .nilFunc]:=⟨z66⟩
instance:nu 67 1:=⟨SG⟩
instance:iT 67 false:=⟨kR⟩
instance:j0 67 true:=⟨t67⟩
instance:kn 67 45:=⟨Mp⟩
instance:lx 67 true:=⟨LF⟩
instance:nu 69 16:=⟨mN⟩
instance:o5 69 200:=⟨CN⟩
instance:iT 69 true:=⟨FC⟩
instance:j0 69 true:=⟨t69⟩
instance:kj 69 [.z,.s (.int .u8 0),.s (.int .i64 0),.s (.int .i64 0),.s (.int .i64 0),.s (.int .i64 0),.s (.string "".toUTF8),.s (.int .u8 0),.s (.int .i64 0),.s (.int .i64 0),.s (.int .i64 0),.s (.int .i64 0),.z,.z,.z,.s (.int .i64 0)]:=⟨z69⟩
instance:V (du prog 69 0) (some (0,67)):=⟨kR⟩
instance:V (du prog 69 1) (some (1,48)):=⟨kR⟩
instance:iT 70 false:=⟨a70⟩
instance:j0 70 true:=⟨t70⟩
instance:kj 70 [.s .nilFunc]:=⟨z70⟩
instance:iT 72 false:=⟨a72⟩
instance:j0 72 true:=⟨t72⟩
instance:kj 72 [.s .nilFunc]:=⟨z72⟩
instance:iT 75 false:=⟨a75⟩
instance:j0 75 true:=⟨t75⟩
instance:kj 75 [.s .nilFunc]:=⟨z75⟩
instance:iT 76 false:=⟨a76⟩
instance:j0 76 true:=⟨t76⟩
instance:kj 76 [.s .nilFunc]:=⟨z76⟩
instance:nu 82 2:=⟨FA⟩
instance:o5 82 24:=⟨SD⟩
instance:iT 82 true:=⟨kR⟩
instance:j0 82 true:=⟨kR⟩
instance:kj 82 [.s (.string "".toUTF8),.s (.int .i64 0)]:=⟨kR⟩
instance:V (du prog 82 0) (some (0,9)):=⟨kR⟩
instance:V (du prog 82 1) (some (1,3)):=⟨kR⟩
instance:nu 91 1:=⟨kR⟩
instance:iT 91 false:=⟨kR⟩
instance:j0 91 true:=⟨kR⟩
instance:nu 93 10:=⟨c93⟩
instance:iT 93 true:=⟨a93⟩
instance:j0 93 true:=⟨t93⟩
instance:kj 93 [.s (.string "".toUTF8),.s (.bool false),.s (.int .i64 0),.s (.int .u8 0),.z,.z,.z,.z,.s (.map none),.s (.map none)]:=⟨kR⟩
instance:V (du prog 93 0) (some (0,26)):=⟨kR⟩
instance:V (du prog 93 1) (some (8,91)):=⟨kR⟩
instance:V (du prog 93 2) (some (9,91)):=⟨kR⟩
instance:kn 94 99:=⟨kR⟩
instance:lx 94 true:=⟨kR⟩
instance:nu 96 1:=⟨c96⟩
instance:iT 96 false:=⟨kR⟩
instance:j0 96 true:=⟨t96⟩
instance:kj 96 [.z]:=⟨kR⟩
instance:kn 96 35:=⟨kR⟩
instance:lx 96 true:=⟨kR⟩
instance:nu 99 2:=⟨oe⟩
instance:o5 99 32:=⟨b99⟩
instance:iT 99 true:=⟨vw⟩
instance:j0 99 true:=⟨t99⟩
instance:kj 99 [.s (.bool false),.z]:=⟨Ta⟩
instance:V (du prog 99 0) (some (0,4)):=⟨Qw⟩
instance:V (du prog 99 1) (some (1,63)):=⟨Qx⟩
instance:iT 127 false:=⟨a127⟩
instance:j0 127 true:=⟨t127⟩
instance:kj 127 [.z]:=⟨z127⟩
instance:iT 164 false:=⟨a164⟩
instance:j0 164 true:=⟨t164⟩
instance:kj 164 [.s .nilFunc]:=⟨z164⟩
instance:iT 171 false:=⟨a171⟩
instance:j0 171 true:=⟨t171⟩
instance:kj 171 [.s .nilFunc]:=⟨z171⟩
instance:iT 173 true:=⟨a173⟩
instance:j0 173 true:=⟨t173⟩
instance:kj 173 []:=⟨z173⟩
instance:kn 196 201:=⟨kR⟩
instance:lx 196 true:=⟨kR⟩
instance:nu 199 1:=⟨kR⟩
instance:iT 199 false:=⟨kR⟩
instance:j0 199 true:=⟨kR⟩
instance:nu 201 20:=⟨uD⟩
instance:o5 201 160:=⟨aay⟩
instance:iT 201 true:=⟨a201⟩
instance:j0 201 true:=⟨t201⟩
instance:kj 201 [.s (.int .u64 0),.s (.int .u64 0),.s (.int .u64 0),.s (.int .u64 0),.s (.int .u64 0),.s (.int .u64 0),.s (.int .u64 0),.s (.int .u64 0),.s (.int .u64 0),.s (.int .u64 0),.s (.int .u64 0),.s (.int .u64 0),.s (.int .u64 0),.s (.int .u64 0),.s (.int .u64 0),.s (.int .u64 0),.s (.int .u64 0),.s (.int .u64 0),.s (.int .u64 0),.s (.int .u64 0)]:=⟨z201⟩
instance:kn 201 199:=⟨kR⟩
instance:V (qA prog 201) true:=⟨kR⟩
instance:V (rB prog 201) 20:=⟨kR⟩
instance:nu 206 9:=⟨kR⟩
instance:iT 206 true:=⟨kR⟩
instance:j0 206 true:=⟨kR⟩
instance:kj 206 [.s (.string "".toUTF8),.s (.bool false),.s (.int .i64 0),.s (.int .u8 0),.z,.z,.z,.z,.z]:=⟨kR⟩
instance:V (du prog 206 0) (some (0,26)):=⟨kR⟩
instance:V (du prog 206 1) (some (8,96)):=⟨kR⟩
instance:iT 212 false:=⟨a212⟩
instance:j0 212 true:=⟨t212⟩
instance:kj 212 [.s .nilFunc]:=⟨z212⟩
instance:iT 213 false:=⟨a213⟩
instance:j0 213 true:=⟨t213⟩
instance:kj 213 [.s (.map none)]:=⟨z213⟩
instance:iT 233 false:=⟨a233⟩
instance:j0 233 true:=⟨t233⟩
instance:kj 233 [.s .nilFunc]:=⟨z233⟩
instance:nu 235 6:=⟨kR⟩
instance:iT 235 true:=⟨HK⟩
instance:j0 235 true:=⟨kR⟩
instance:kj 235 [.s (.int .i64 0),.s (.int .i64 0),.s (.int .i64 0),.s (.int .i64 0),.s (.int .i64 0),.s (.int .i64 0)]:=⟨HL⟩
instance:V (du prog 235 0) (some (0,3)):=⟨kR⟩
instance:V (du prog 235 1) (some (1,3)):=⟨kR⟩
instance:V (du prog 235 2) (some (2,3)):=⟨kR⟩
instance:V (du prog 235 3) (some (3,3)):=⟨kR⟩
instance:V (du prog 235 4) (some (4,3)):=⟨kR⟩
instance:V (du prog 235 5) (some (5,3)):=⟨kR⟩
instance:pb 2 (some (.int .i64)):=⟨kR⟩
instance:pb 3 (some (.int .i64)):=⟨kR⟩
instance:pb 5 (some (.int .u8)):=⟨u5⟩
instance:pb 8 (some (.struct (gX prog 8))):=⟨u8⟩
instance:pb 22 (some (.slice 5)):=⟨kR⟩
instance:pb 26 (some (.struct (gX prog 26))):=⟨kR⟩
instance:V (((gX prog 26).toList.map λf=>(f.offset,prog.cellsOf f.type))) [(0,1),(1,1),(2,1),(3,1),(4,1),(5,1),(6,1),(7,1)]:=⟨kR⟩
instance:V (((gX prog 26).toList.all λf=>(prog.info? f.type).isSome)) true:=⟨kR⟩
instance:pb 45 (some (.struct (gX prog 45))):=⟨kR⟩
instance:V (((gX prog 45).toList.map λf=>(f.offset,prog.cellsOf f.type))) [(0,1),(1,1),(2,1),(3,1),(4,1),(5,1)]:=⟨kR⟩
instance:V (((gX prog 45).toList.all λf=>(prog.info? f.type).isSome)) true:=⟨kR⟩
instance:pb 62 (some (.int .u64)):=⟨kR⟩
instance:pb 69 (some (.struct (gX prog 69))):=⟨u69⟩
instance:V (((gX prog 69).toList.map λf=>(f.offset,prog.cellsOf f.type))) [(0,1),(1,15)]:=⟨aav⟩
instance:V (((gX prog 69).toList.all λf=>(prog.info? f.type).isSome)) true:=⟨aaw⟩
instance:pb 82 (some (.struct (gX prog 82))):=⟨kR⟩
instance:V (((gX prog 82).toList.map λf=>(f.offset,prog.cellsOf f.type))) [(0,1),(1,1)]:=⟨kR⟩
instance:V (((gX prog 82).toList.all λf=>(prog.info? f.type).isSome)) true:=⟨kR⟩
instance:V (jb prog 91) 5:=⟨kR⟩
instance:V (lD prog 91) true:=⟨kR⟩
instance:V (uy prog 91) 235:=⟨HJ⟩
instance:pb 93 (some (.struct (gX prog 93))):=⟨kR⟩
instance:V (((gX prog 93).toList.map λf=>(f.offset,prog.cellsOf f.type))) [(0,8),(8,1),(9,1)]:=⟨kR⟩
instance:V (((gX prog 93).toList.all λf=>(prog.info? f.type).isSome)) true:=⟨kR⟩
instance:pb 99 (some (.struct (gX prog 99))):=⟨u99⟩
instance:V (((gX prog 99).toList.map λf=>(f.offset,prog.cellsOf f.type))) [(0,1),(1,1)]:=⟨aaC⟩
instance:V (((gX prog 99).toList.all λf=>(prog.info? f.type).isSome)) true:=⟨aaD⟩
instance:V (jb prog 193) 3:=⟨Qs⟩
instance:V (lD prog 193) true:=⟨Qt⟩
instance:pb 206 (some (.struct (gX prog 206))):=⟨kR⟩
instance:V (((gX prog 206).toList.map λf=>(f.offset,prog.cellsOf f.type))) [(0,8),(8,1)]:=⟨kR⟩
instance:V (((gX prog 206).toList.all λf=>(prog.info? f.type).isSome)) true:=⟨kR⟩
instance:pb 235 (some (.struct (gX prog 235))):=⟨kR⟩
instance:V (((gX prog 235).toList.map λf=>(f.offset,prog.cellsOf f.type))) [(0,1),(1,1),(2,1),(3,1),(4,1),(5,1)]:=⟨kR⟩
instance:V (((gX prog 235).toList.all λf=>(prog.info? f.type).isSome)) true:=⟨kR⟩
section
variable{P:Program}{Y:iz}{ops:Array Oper}{dr:Bool}{cf:List (Nat×Nat)}{Q:Exit->St->Prop}{r:List Oper}{v:Env}{m:Mem}{n:Nat}{q:o0}{x:Oper}{s:St}{e:List Nat×List Nat}
def n9{p:Prop}(h:p:=by first|rfl|exact aP rfl|(simp;done)|(simp;omega)|omega):p:=h
def Sx{p:Prop}(h:p:=by first|omega|exact aP rfl|(simp;done)|(simp;omega)):p:=h
def qI{p:Prop}(h:p:=by first|(simp;done)|exact⟨rfl,aP rfl⟩|(simp;omega)):p:=h
def Sy{p:Prop}(h:p:=by first|rfl|exact rE _|(simp[rE];done)|exact agE):p:=h
def AX{p:Prop}(h:p:=by first|(simp;done)|omega|exact aP rfl):p:=h
def Sz{p:Prop}(h:p:=by unfold maxLen;first|omega|(simp;omega)):p:=h
def tP{p:Prop}(h:p:=by first|(simp;done)|fail):p:=h
def Fx{p:Prop}(h:p:=by first|decide|simp):p:=h
def oT(x:Oper):Nat:=2*(match x.op with
 | .move ..=>1
 | .assign ..=>2
 | .pick ..=>3
 | .alloc ..=>4
 | .box ..=>5
 | .build ..=>6
 | .buildSlice ..=>7
 | .insert ..=>8
 | .load ..=>9
 | .store ..=>10
 | .nilCheck ..=>11
 | .unOp ..=>12
 | .convert ..=>13
 | .makeFunc ..=>14
 | .makeMap ..=>15
 | .makeSlice ..=>16
 | .slice ..=>17
 | .fieldAddr ..=>18
 | .field ..=>19
 | .indexAddr ..=>20
 | .index ..=>21
 | .lookup ..=>22
 | .mapUpdate ..=>23
 | .extract ..=>24
 | .call ..=>25
 | .binOp .add ..=>26
 | .binOp .sub ..=>27
 | .binOp .mul ..=>28
 | .binOp .quo ..=>29
 | .binOp .rem ..=>30
 | .binOp .and ..=>31
 | .binOp .or ..=>32
 | .binOp .xor ..=>33
 | .binOp .shl ..=>34
 | .binOp .shr ..=>35
 | .binOp .andNot ..=>36
 | .binOp .eql ..=>37
 | .binOp .neq ..=>38
 | .binOp .lss ..=>39
 | .binOp .leq ..=>40
 | .binOp .gtr ..=>41
 | .binOp .geq ..=>42
 |_=>0)+(match x.guard with
 |none=>0
 |_=>1)
def qf(i:Nat)(h:aJ P Y ops dr cf Q (x::r) s q)(ht:oT x=i:=by exact rfl):aJ P Y ops dr cf Q (x::r) s q:=h
def SS(K:aJ P Y ops dr cf Q r s (q++[e]))(h:SO P Y ops dr x v m n s e:=by intro _ _ _ _ k;first|(refine qf 2 ?_;first|exact ax (jI (v:=.s (.int _ _)) rfl) ak aa k|exact ax (jI (v:=.s (.bool _)) rfl) ak aa k|exact ax (jI (v:=.sl _ _) rfl) ak aa k|exact ax (jI (v:=.rs _ _ _) rfl) ak aa k|exact ax (jI (v:=.fn _ _ _) rfl) ak aa k|exact ax (jI (v:=.rp _ _) rfl) ak aa k|exact ax (jI (v:=.s (.string _)) rfl) ak aa k|exact ax (jI (v:=_) rfl) ak aa k|exact ax (jI (v:=.mp _) rfl) ak aa k|exact ax (jI (v:=.im _) rfl) ak aa k)|(refine qf 4 ?_;first|exact ax (fQ (v:=.s (.bool _)) rfl) ak aa k|exact ax (fQ (v:=.s (.int _ _)) rfl) ak aa k|exact ax (fQ (v:=.sl _ _) rfl) ak aa k|exact ax (fQ (v:=.rs _ _ _) rfl) ak aa k|exact ax (fQ (v:=.z) rfl) ak aa k|exact ax (fQ (v:=.mp _) rfl) ak aa k|exact ax (fQ (v:=.im _) rfl) ak aa k)|(refine qf 18 ?_;first|exact ax (nC (vs:=aG _) rfl V.h V.h rfl) ak (nD V.h V.h tP) k|exact ax (nC (vs:=aI _) rfl V.h V.h rfl) ak (nD V.h V.h tP) k|exact ax (nC (vs:=aR _) rfl V.h V.h rfl) ak (nD V.h V.h tP) k|exact ax (nC (vs:=bR _ _ _) rfl V.h V.h rfl) ak (nD V.h V.h tP) k|exact ax (nC (vs:=bq _) rfl V.h V.h rfl) ak (nD V.h V.h tP) k|exact ax (nC (vs:=cD _ _) rfl V.h V.h rfl) ak (nD V.h V.h tP) k|exact ax (dL rfl rfl V.h V.h (qd n9)) ak (dN V.h V.h n9) k|exact ax (dL (vs:=aI _) rfl rfl V.h V.h rfl) ak (dN V.h V.h AX) k|exact ax (dL (vs:=aI _) rfl s3 V.h V.h rfl) ak (dN V.h V.h AX) k|exact ax (nC (vs:=cK _) rfl V.h V.h rfl) ak (nD V.h V.h tP) k|exact ax (dL (vs:=aR _) rfl rfl V.h V.h rfl) ak (dN V.h V.h AX) k|exact ax (nC rfl V.h V.h rfl) ak (nD V.h V.h tP) k|exact ax (dL rfl (aq oG rfl) V.h V.h (qd n9)) ak (dN V.h V.h n9) k|exact ax (dL (vs:=bq _) rfl s3 V.h V.h rfl) ak (dN V.h V.h AX) k|exact ax (dL rfl rfl V.h V.h rfl) ak (dN V.h V.h AX) k|exact ax (dL rfl s3 V.h V.h rfl) ak (dN V.h V.h AX) k|exact ax (xV rfl V.h) ak (xW V.h V.h) k|exact ax (fe rfl rfl kd V.h) ak (fh V.h V.h kd) k|exact ax (fe rfl an kd V.h) ak (fh V.h V.h kd) k|exact ax (fe rfl s3 kd V.h) ak (fh V.h V.h kd) k|exact ax (fe rfl rfl rfl V.h) ak (fh V.h V.h rfl) k|exact ax (fe rfl an rfl V.h) ak (fh V.h V.h rfl) k)|(refine qf 36 ?_;first|exact ax (xI rfl V.h) ak (jK V.h) k|exact ax (oi rfl rfl V.h) ak (jK V.h) k|exact ax (oi rfl an V.h) ak (jK V.h) k|exact ax (oi rfl dQ V.h) ak (jK V.h) k)|(refine qf 19 ?_;first|exact cq rfl rfl (xV rfl V.h) (λhc=>⟨ak,(xW V.h V.h)⟩) k|exact cq rfl rfl (nC (vs:=cD _ _) rfl V.h V.h rfl) (λhc=>⟨ak,(nD V.h V.h tP)⟩) k|exact cq rfl rfl (nC (vs:=bR _ _ _) rfl V.h V.h rfl) (λhc=>⟨ak,(nD V.h V.h tP)⟩) k|exact cq rfl rfl (nC (vs:=aR _) rfl V.h V.h rfl) (λhc=>⟨ak,(nD V.h V.h tP)⟩) k|exact cq rfl rfl (nC (vs:=aI _) rfl V.h V.h rfl) (λhc=>⟨ak,(nD V.h V.h tP)⟩) k|exact cq rfl rfl (fe rfl an kd V.h) (λhc=>⟨ak,(fh V.h V.h kd)⟩) k|exact cq rfl rfl (fe rfl rfl rfl V.h) (λhc=>⟨ak,(fh V.h V.h rfl)⟩) k|exact cq rfl rfl (fe rfl s3 rfl V.h) (λhc=>⟨ak,(fh V.h V.h rfl)⟩) k|exact cq rfl rfl (dL (vs:=aG _) rfl rfl V.h V.h rfl) (λhc=>⟨ak,(dN V.h V.h AX)⟩) k|exact cq rfl rfl (dL rfl rfl V.h V.h rfl) (λhc=>⟨ak,(dN V.h V.h AX)⟩) k|exact cq rfl rfl (dL rfl (aq oG rfl) V.h V.h (qd n9)) (λhc=>⟨ak,(dN V.h V.h n9)⟩) k)|(refine qf 6 ?_;first|exact agz rfl rfl (by first|exact trivial|exact rfl) k|exact agA rfl rfl (by first|exact trivial|exact rfl) k|exact ah' rfl rfl rfl (λh=>by first|exact trivial|exact rfl|exact h|(show Eq _ _;rw[h];rfl)|(show Eq _ _;simp[h];done)|(show Eq _ _;simp_all;done)|fail) (λh=>by first|exact trivial|exact rfl|exact h|(show Eq _ _;rw[h];rfl)|(show Eq _ _;simp[h];done)|(show Eq _ _;simp_all;done)|fail) k)|(refine qf 37 ?_;first|exact cq rfl rfl (xI rfl V.h) (λhc=>⟨ak,(jK V.h)⟩) k|exact cq rfl rfl (oi rfl rfl V.h) (λhc=>⟨ak,(jK V.h)⟩) k|exact cq rfl rfl (oi rfl an V.h) (λhc=>⟨ak,(jK V.h)⟩) k|exact cq rfl rfl (oi rfl s3 V.h) (λhc=>⟨ak,(jK V.h)⟩) k)|(refine qf 74 ?_;first|exact ax (PD rfl rfl kQ) ak rfl k|exact ax (P5 rfl rfl) ak rfl k)|(refine qf 40 ?_;first|exact ax (Xs rfl rfl V.h V.h (by assumption)) ak (Xt V.h (by assumption)) k|exact ax (zL rfl rfl V.h V.h (Du) (by assumption)) ak (zM V.h (Du) (by assumption)) k|exact ax (zL rfl rfl V.h V.h (Jk) (by assumption)) ak (zM V.h (Jk) (by assumption)) k|exact ax (zL rfl rfl V.h V.h (Gg) (by assumption)) ak (zM V.h (Gg) (by assumption)) k|exact ax (aia rfl rfl rfl V.h V.h V.h) ak ⟨V.h,by omega⟩ k|exact ax (zL rfl rfl V.h V.h (UF) (by assumption)) ak (zM V.h (UF) (by assumption)) k|exact ax (pY rfl rfl rfl V.h V.h) ak ⟨V.h,by omega⟩ k|exact ax (pY rfl rfl an V.h V.h) ak ⟨V.h,by omega⟩ k|exact ax (pY rfl rfl s3 V.h V.h) ak ⟨V.h,by omega⟩ k|exact ax (xL rfl rfl rfl V.h V.h) ak ⟨V.h,by omega⟩ k|exact ax (xL rfl rfl dQ V.h V.h) ak ⟨V.h,by omega⟩ k|exact ax (aib rfl rfl s3 V.h V.h) ak ⟨V.h,by omega⟩ k)|(refine qf 20 ?_;first|exact bT (dM (d:=.s (.int _ _)) (cs':=_) rfl rfl rfl rfl rfl) ak (bW V.h V.h qI rfl) k|exact bT (dM (d:=.s (.bool _)) (cs':=_) rfl rfl rfl rfl rfl) ak (bW V.h V.h qI rfl) k|exact bT (eK (cs':=bq _) rfl rfl s3 rfl) ak (bW V.h V.h qI (by rfl)) k|exact bT (dM (d:=.s (.string _)) (cs':=_) rfl rfl rfl rfl rfl) ak (bW V.h V.h qI rfl) k|exact bT (eK rfl rfl rfl (OT n9 n9)) ak (Gu n9 n9 Sy) k|exact bT (dM (d:=.sl _ _) (cs':=_) rfl rfl rfl rfl rfl) ak (bW V.h V.h qI rfl) k|exact bT (eK (cs':=aG _) rfl rfl rfl rfl) ak (bW V.h V.h qI (by rfl)) k|exact bT (dM (d:=.sl _ _) (cs':=_) rfl rfl an rfl rfl) ak (bW V.h V.h qI rfl) k|exact bT (dM (d:=.z) (cs':=_) rfl rfl rfl rfl rfl) ak (bW V.h V.h qI rfl) k|exact bT (eK (cs':=iW _) rfl rfl rfl rfl) ak (bW V.h V.h qI (by rfl)) k|exact bT (eK rfl rfl s3 (OT n9 n9)) ak (Gu n9 n9 Sy) k|exact bT (dM (d:=.s (.int _ _)) (cs':=_) rfl rfl s3 rfl rfl) ak (bW V.h V.h qI rfl) k|exact bT (eK rfl rfl (aq oG rfl) (OT n9 n9)) ak (Gu n9 n9 Sy) k|exact bT (eK rfl rfl rfl (Y8 (by decide) (by assumption) (by assumption) (by first|assumption|(simp;omega)|(simp;done)|fail))) ak (Gu (by first|(simp;omega)|(simp;done)|fail) (BV (by assumption) (by assumption)) (rE _)) k|exact bT (eK (cs':=aI _) rfl rfl rfl rfl) ak (bW V.h V.h qI (by rfl)) k|exact bT (eK (cs':=aI _) rfl rfl s3 rfl) ak (bW V.h V.h qI (by rfl)) k|exact bT (eK (cs':=aR _) rfl rfl s3 rfl) ak (bW V.h V.h qI (by rfl)) k|exact bT (eK rfl rfl rfl rfl) ak (bW V.h V.h qI (by rfl)) k|exact bT (eK rfl rfl s3 rfl) ak (bW V.h V.h qI (by rfl)) k)|(refine qf 3 ?_;first|exact cq rfl rfl (jI (v:=.s (.int _ _)) rfl) (λhc=>⟨ak,aa⟩) k|exact cq rfl rfl (jI (v:=.s (.bool _)) rfl) (λhc=>⟨ak,aa⟩) k|exact cq rfl rfl (jI (v:=.sl _ _) rfl) (λhc=>⟨ak,aa⟩) k|exact cq rfl rfl (jI (v:=.s (.string _)) rfl) (λhc=>⟨ak,aa⟩) k|exact cq rfl rfl (jI (v:=.rs _ _ _) rfl) (λhc=>⟨ak,aa⟩) k|exact cq rfl rfl (jI (v:=.fn _ _ _) rfl) (λhc=>⟨ak,aa⟩) k)|(refine qf 50 ?_;first|exact ax (Yz rfl) ak V.h k|exact ax (Pe rfl) ak V.h k|exact gf (fW rfl (aq oG an) rfl V.h V.h (gV s3 rfl) rfl) ak ⟨V.h,rfl,Sx,(by decide),(by first|rfl|(simp;done)|(simp;omega)),Sz,(by rw[b3];first|omega|(simp;omega)),(by first|(simp;done)|(simp;omega))⟩ k|exact ax (Kt rfl rfl) ak V.h k|exact gf (fW rfl (aq oG dQ) rfl V.h V.h (gV s3 rfl) rfl) ak ⟨V.h,rfl,Sx,(by decide),(by first|rfl|(simp;done)|(simp;omega)),Sz,(by rw[b3];first|omega|(simp;omega)),(by first|(simp;done)|(simp;omega))⟩ k|exact cY (lq rfl rfl V.h V.h (gV s3 rfl)) ak ⟨V.h,Sx,(by decide),Sz,(by rw[b3];first|omega|(simp;omega))⟩ k|exact ax (Kt rfl an) ak V.h k|exact ax (Kt rfl dQ) ak V.h k|exact z1 (by assumption) rfl ak k|exact gf (fW rfl rfl rfl V.h V.h (jE (by assumption)) rfl) ak ⟨V.h,rfl,Sx,(by decide),(by first|rfl|(simp;done)|(simp;omega)),Sz,(by rw[b3];first|omega|(simp;omega)),(by first|(simp;done)|(simp;omega))⟩ k|exact cY (lq rfl rfl V.h V.h (jE (by assumption))) ak ⟨V.h,Sx,(by decide),Sz,(by rw[b3];first|omega|(simp;omega))⟩ k|exact gf (fW rfl rfl rfl V.h V.h (gV rfl rfl) rfl) ak ⟨V.h,rfl,Sx,(by decide),(by first|rfl|(simp;done)|(simp;omega)),Sz,(by rw[b3];first|omega|(simp;omega)),(by first|(simp;done)|(simp;omega))⟩ k|exact cY (lq rfl rfl V.h V.h (gV rfl rfl)) ak ⟨V.h,Sx,(by decide),Sz,(by rw[b3];first|omega|(simp;omega))⟩ k)|(refine qf 52 ?_;first|exact ax (Yw rfl rfl oG) ak rfl k)|(refine qf 75 ?_;first|exact cq rfl rfl (PD rfl rfl kQ) (λhc=>⟨ak,rfl⟩) k|exact cq rfl rfl (PD rfl rfl Le) (λhc=>⟨ak,rfl⟩) k|exact cq rfl rfl (P5 rfl rfl) (λhc=>⟨ak,rfl⟩) k|exact cq rfl rfl (Xl rfl rfl) (λhc=>⟨ak,aa⟩) k)|(refine qf 78 ?_;first|exact ax (PE rfl rfl yD) ak rfl k|exact ax (PY rfl rfl) ak rfl k)|(refine qf 10 ?_;first|exact cY (uf (cs:=aG _) rfl) ak (by first|rfl|exact xE ie gh|exact rE _|exact ym di) k|exact cY (uf (cs:=aI _) rfl) ak (by first|rfl|exact xE ie gh|exact rE _|exact ym di) k|exact cY (uf (cs:=aR _) rfl) ak (by first|rfl|exact xE ie gh|exact rE _|exact ym di) k|exact cY (uf (cs:=bR _ _ _) rfl) ak (by first|rfl|exact xE ie gh|exact rE _|exact ym di) k|exact cY (uf rfl) ak (by first|rfl|exact xE ie gh|exact rE _|exact ym di) k|exact cY (uf (cs:=cD _ _) rfl) ak (by first|rfl|exact xE ie gh|exact rE _|exact ym di) k|exact cY (uf (cs:=bq _) rfl) ak (by first|rfl|exact xE ie gh|exact rE _|exact ym di) k|exact cY (Ks (d:=.sl _ _) rfl rfl) ak rfl k)|(refine qf 8 ?_;first|exact cY (Wj V.h) ak V.h k)|(refine qf 51 ?_;first|exact cq rfl rfl (Yz rfl) (λhc=>⟨ak,V.h⟩) k|exact BG rfl rfl rfl (λhc=>⟨ak,by assumption⟩) k)|(refine qf 24 ?_;first|exact ax (Yx rfl) ak aa k)|(refine qf 12 ?_;first|exact ax (Gp (cs:=bR _ _ _) V.h V.h V.h rfl rfl) ak ⟨V.h,V.h⟩ k|exact ax (Gp V.h V.h V.h rfl rfl) ak ⟨V.h,V.h⟩ k)|(refine qf 83 ?_;first|exact cq rfl rfl (XW rfl rfl yE) (λhc=>⟨ak,rfl⟩) k|exact cq rfl rfl (PZ rfl rfl) (λhc=>⟨ak,rfl⟩) k)|(refine qf 14 ?_;first|exact cY (oh (cs:=[_]) V.h V.h V.h rfl rfl) ak ⟨rfl,by decide,V.h,by decide⟩ k|exact cY (oh (cs:=[]) V.h V.h V.h rfl rfl) ak ⟨rfl,by decide,V.h,by decide⟩ k|exact cY (oh (cs:=[_,_]) V.h V.h V.h rfl rfl) ak ⟨rfl,by decide,V.h,by decide⟩ k|exact cY (oh V.h V.h V.h rfl rfl) ak ⟨rfl,by decide,V.h,by decide⟩ k)|(refine qf 25 ?_;first|exact cq rfl rfl (Yx rfl) (λhc=>⟨ak,aa⟩) k)|(refine qf 41 ?_;first|exact cq rfl rfl (Xs rfl rfl V.h V.h (by assumption)) (λhc=>⟨ak,(Xt V.h (by assumption))⟩) k|exact cq rfl rfl (zL rfl rfl V.h V.h (Jk) (by assumption)) (λhc=>⟨ak,(zM V.h (Jk) (by assumption))⟩) k)|(refine qf 76 ?_;first|exact ax (PF rfl rfl yF) ak rfl k|exact ax (P6 rfl rfl) ak rfl k)|(refine qf 7 ?_;first|exact aeF rfl rfl rfl rfl (by first|exact λ_=>trivial|exact λ_=>rfl|exact λhc=>hc) (by first|exact λ_=>trivial|exact λ_=>rfl|exact λhc=>hc) k|exact aeG rfl rfl rfl rfl (by first|exact λ_=>trivial|exact λ_=>rfl|exact λhc=>hc) (by first|exact λ_=>trivial|exact λ_=>rfl|exact λhc=>hc) k|exact agB rfl rfl rfl rfl rfl (by first|exact λ_=>trivial|exact λ_=>rfl|exact λhc=>hc) (λhc h=>by first|exact trivial|exact rfl|exact hc|(show Eq _ _;rw[hc,h];rfl)|(show Eq _ _;rw[h,hc];rfl)|(show Eq _ _;simp[hc,h];done)|(show Eq _ _;simp_all;done)|fail) (λhc h=>by first|exact trivial|exact rfl|exact hc|(show Eq _ _;rw[hc,h];rfl)|(show Eq _ _;rw[h,hc];rfl)|(show Eq _ _;simp[hc,h];done)|(show Eq _ _;simp_all;done)|fail) k)|(refine qf 16 ?_;first|exact bT (agF rfl rfl rfl rfl V.h) ak ⟨V.h,by kernel_rfl,by kernel_rfl⟩ k)|(refine qf 48 ?_;first|exact ax (zt (v:=.s (.bool _)) rfl rfl) ak Fx k|exact ax (zt (v:=.im _) rfl rfl) ak Fx k|exact ax (zt (v:=.agg (aG _)) rfl rfl) ak Fx k|exact ax (zt (v:=.s (.int _ _)) rfl rfl) ak Fx k|exact ax (zt (v:=.agg (iW _)) rfl rfl) ak Fx k|exact ax (zt (v:=.agg _) rfl rfl) ak Fx k)|(refine qf 77 ?_;first|exact cq rfl rfl (P6 rfl rfl) (λhc=>⟨ak,rfl⟩) k)|(refine qf 54 ?_;first|exact ax (XX rfl rfl Ap) ak rfl k|exact ax (P7 rfl rfl oG) ak rfl k)|(refine qf 22 ?_;first|exact ax (aiY rfl an) ak aa k)|(refine qf 84 ?_;first|exact ax (P4 rfl rfl) ak rfl k)|(refine qf 81 ?_;first|exact cq rfl rfl (aje rfl rfl aae) (λhc=>⟨ak,rfl⟩) k|exact cq rfl rfl (KW rfl rfl) (λhc=>⟨ak,rfl⟩) k)|(refine qf 79 ?_;first|exact cq rfl rfl (PY rfl rfl) (λhc=>⟨ak,rfl⟩) k)|(refine qf 28 ?_;first|exact ax (Xq rfl rfl) ak aa k)|(refine qf 32 ?_;first|exact cY (zx rfl rfl V.h V.h) ak ⟨by omega,rfl,by omega,by rw[b4];omega,V.h⟩ k)|(refine qf 55 ?_;first|exact cq rfl rfl (XX rfl rfl Ap) (λhc=>⟨ak,rfl⟩) k|exact cq rfl rfl (P7 rfl rfl oG) (λhc=>⟨ak,rfl⟩) k)|(refine qf 82 ?_;first|exact ax (PZ rfl rfl) ak rfl k)|(refine qf 44 ?_;first|exact ax (ad' rfl rfl V.h kg) ak ⟨V.h,by kernel_rfl,Iw⟩ k)|(refine qf 42 ?_;first|exact ax (Xp rfl rfl) ak ⟨V.h,by omega,by omega⟩ k)|(refine qf 43 ?_;first|exact cq rfl rfl (Xp rfl rfl) (λhc=>⟨ak,⟨V.h,by omega,by omega⟩⟩) k)|(refine qf 30 ?_;first|exact cY ajT ak aa k)|(refine qf 15 ?_;first|exact ajd rfl rfl (oh (cs:=[_]) V.h V.h V.h rfl rfl) ak ⟨rfl,by decide,V.h,by decide⟩ k)|exact z λ_ _=>k):aJ P Y ops dr cf Q (x::r) ⟨v,m,n⟩ q:=h _ _ _ _ K
variable{x2 x3 x4 x5 x6 x7 x8 x9:Oper}{e2 e3 e4 e5 e6 e7 e8 e9:List Nat×List Nat}
def af(K:aJ P Y ops dr cf Q r s (q++[e]++[e2]))(h:∀ cf Q r q,aJ P Y ops dr cf Q r s (q++[e]++[e2])->aJ P Y ops dr cf Q (x::x2::r) ⟨v,m,n⟩ q:=by intro _ _ _ _ k;(iterate 2 refine SS ?_);exact k):aJ P Y ops dr cf Q (x::x2::r) ⟨v,m,n⟩ q:=h _ _ _ _ K
def az(K:aJ P Y ops dr cf Q r s (q++[e]++[e2]++[e3]))(h:∀ cf Q r q,aJ P Y ops dr cf Q r s (q++[e]++[e2]++[e3])->aJ P Y ops dr cf Q (x::x2::x3::r) ⟨v,m,n⟩ q:=by intro _ _ _ _ k;(iterate 3 refine SS ?_);exact k):aJ P Y ops dr cf Q (x::x2::x3::r) ⟨v,m,n⟩ q:=h _ _ _ _ K
def aX(K:aJ P Y ops dr cf Q r s (q++[e]++[e2]++[e3]++[e4]))(h:∀ cf Q r q,aJ P Y ops dr cf Q r s (q++[e]++[e2]++[e3]++[e4])->aJ P Y ops dr cf Q (x::x2::x3::x4::r) ⟨v,m,n⟩ q:=by intro _ _ _ _ k;(iterate 4 refine SS ?_);exact k):aJ P Y ops dr cf Q (x::x2::x3::x4::r) ⟨v,m,n⟩ q:=h _ _ _ _ K
def bG(K:aJ P Y ops dr cf Q r s (q++[e]++[e2]++[e3]++[e4]++[e5]))(h:∀ cf Q r q,aJ P Y ops dr cf Q r s (q++[e]++[e2]++[e3]++[e4]++[e5])->aJ P Y ops dr cf Q (x::x2::x3::x4::x5::r) ⟨v,m,n⟩ q:=by intro _ _ _ _ k;(iterate 5 refine SS ?_);exact k):aJ P Y ops dr cf Q (x::x2::x3::x4::x5::r) ⟨v,m,n⟩ q:=h _ _ _ _ K
def cB(K:aJ P Y ops dr cf Q r s (q++[e]++[e2]++[e3]++[e4]++[e5]++[e6]))(h:∀ cf Q r q,aJ P Y ops dr cf Q r s (q++[e]++[e2]++[e3]++[e4]++[e5]++[e6])->aJ P Y ops dr cf Q (x::x2::x3::x4::x5::x6::r) ⟨v,m,n⟩ q:=by intro _ _ _ _ k;(iterate 6 refine SS ?_);exact k):aJ P Y ops dr cf Q (x::x2::x3::x4::x5::x6::r) ⟨v,m,n⟩ q:=h _ _ _ _ K
def eD(K:aJ P Y ops dr cf Q r s (q++[e]++[e2]++[e3]++[e4]++[e5]++[e6]++[e7]))(h:∀ cf Q r q,aJ P Y ops dr cf Q r s (q++[e]++[e2]++[e3]++[e4]++[e5]++[e6]++[e7])->aJ P Y ops dr cf Q (x::x2::x3::x4::x5::x6::x7::r) ⟨v,m,n⟩ q:=by intro _ _ _ _ k;(iterate 7 refine SS ?_);exact k):aJ P Y ops dr cf Q (x::x2::x3::x4::x5::x6::x7::r) ⟨v,m,n⟩ q:=h _ _ _ _ K
def cF(K:aJ P Y ops dr cf Q r s (q++[e]++[e2]++[e3]++[e4]++[e5]++[e6]++[e7]++[e8]))(h:∀ cf Q r q,aJ P Y ops dr cf Q r s (q++[e]++[e2]++[e3]++[e4]++[e5]++[e6]++[e7]++[e8])->aJ P Y ops dr cf Q (x::x2::x3::x4::x5::x6::x7::x8::r) ⟨v,m,n⟩ q:=by intro _ _ _ _ k;(iterate 8 refine SS ?_);exact k):aJ P Y ops dr cf Q (x::x2::x3::x4::x5::x6::x7::x8::r) ⟨v,m,n⟩ q:=h _ _ _ _ K
def bg(K:aJ P Y ops dr cf Q r s (q++[e]++[e2]++[e3]++[e4]++[e5]++[e6]++[e7]++[e8]++[e9]))(h:∀ cf Q r q,aJ P Y ops dr cf Q r s (q++[e]++[e2]++[e3]++[e4]++[e5]++[e6]++[e7]++[e8]++[e9])->aJ P Y ops dr cf Q (x::x2::x3::x4::x5::x6::x7::x8::x9::r) ⟨v,m,n⟩ q:=by intro _ _ _ _ k;(iterate 9 refine SS ?_);exact k):aJ P Y ops dr cf Q (x::x2::x3::x4::x5::x6::x7::x8::x9::r) ⟨v,m,n⟩ q:=h _ _ _ _ K
end
end Go.Abs
section
open Go Go.Proofs List
namespace Go.Abs
open Go.Proofs.Tryz
def Fz{x:Ins}:aE prog 27 [.agg (aI x)] (I (dt x)):=by
 have X:∀ a∈[D.agg (aI x)],Tr a:=.cons (.agg (jP x)) .nil;refine bN (fo f27) X (Tr.s _) ?_;refine aF (af ?_);refine ab (bF (cE [(0,aI x,45)] eH (l:=[(1,.pt (aI x))]) eH) (aM (aj ?_)));refine af ?_;refine ab (pQ (cI (λs=>aL prog s ⟨ay [(1,.pt (aI x)),(4,U8 x.op),(5,B (aC lk x.op))],λ_=>none,1⟩) (aj ?_) λs hg=>⟨_,hg,?_⟩))
 .refine af ?_;refine ab (au rfl (λh=>bd ?_) λe1=>aj ?_)
  .have h:x.op=1:=tn h
   refine ao ⟨rfl,rfl,?_,aa⟩;show D.s (.bool (x.op==1))=_;rw[h];rfl
  refine af ?_;refine ab (au rfl (λh=>bd ?_) λe2=>aj ?_)
  .have h:x.op=2:=tn h
   refine ao ⟨rfl,rfl,?_,aa⟩;show D.s (.bool (x.op==2))=_;rw[h];rfl
  refine af ?_;refine ab (au rfl (λh=>bd ?_) λe3=>aj ?_)
  .have h:x.op=3:=tn h
   refine ao ⟨rfl,rfl,?_,aa⟩;show D.s (.bool (x.op==3))=_;rw[h];rfl
  refine af ?_;refine ab (au rfl (λh=>bd ?_) λe4=>aj ?_)
  .have h:x.op=4:=tn h
   refine ao ⟨rfl,rfl,?_,aa⟩;show D.s (.bool (x.op==4))=_;rw[h];rfl
  refine af ?_;refine ab (au rfl (λh=>bd ?_) λe5=>aj ?_)
  .have h:x.op=5:=tn h
   refine ao ⟨rfl,rfl,?_,aa⟩;show D.s (.bool (x.op==5))=_;rw[h];rfl
  refine af ?_;refine ab (au rfl (λh=>bd ?_) λe6=>aj ?_)
  .have h:x.op=6:=tn h
   refine ao ⟨rfl,rfl,?_,aa⟩;show D.s (.bool (x.op==6))=_;rw[h];rfl
  refine af ?_;refine ab (au rfl (λh=>bd ?_) λe7=>aj ?_)
  .have h:x.op=7:=tn h
   refine ao ⟨rfl,rfl,?_,aa⟩;show D.s (.bool (x.op==7))=_;rw[h];rfl
  refine af ?_;refine ab (au rfl (λh=>bd ?_) λe8=>aj ?_)
  .have h:x.op=8:=tn h
   refine ao ⟨rfl,rfl,?_,aa⟩;show D.s (.bool (x.op==8))=_;rw[h];rfl
  refine af ?_;refine ab (au rfl (λh=>bd ?_) λe9=>aj ?_)
  .have h:x.op=9:=tn h
   refine ao ⟨rfl,rfl,?_,aa⟩;show D.s (.bool (x.op==9))=_;rw[h];rfl
  refine af ?_;refine ab (au rfl (λh=>bd ?_) λO=>aj ?_)
  .have h:x.op=10:=tn h
   refine ao ⟨rfl,rfl,?_,aa⟩;show D.s (.bool (x.op==10))=_;rw[h];rfl
  refine af ?_;refine ab (au rfl (λh=>bd ?_) λJ=>aj ?_)
  .have h:x.op=11:=tn h
   refine ao ⟨rfl,rfl,?_,aa⟩;show D.s (.bool (x.op==11))=_;rw[h];rfl
  refine af ?_;refine ab (au rfl (λh=>bd ?_) λzi=>aj ?_)
  .have h:x.op=13:=tn h
   refine ao ⟨rfl,rfl,?_,aa⟩;show D.s (.bool (x.op==13))=_;rw[h];rfl
  refine af ?_;refine ab (au rfl (λh=>bd ?_) λC=>aj ?_)
  .have h:x.op=14:=tn h
   refine ao ⟨rfl,rfl,?_,aa⟩;show D.s (.bool (x.op==14))=_;rw[h];rfl
  refine af ?_;refine ab (au rfl (λh=>bd ?_) λIN=>eI ?_)
  .have h:x.op=17:=tn h
   refine ao ⟨rfl,rfl,?_,aa⟩;show D.s (.bool (x.op==17))=_;rw[h];rfl
  refine af ?_;refine ab (ao ⟨rfl,rfl,?_,aa⟩);show D.s (.bool (x.op==19))=_;simp[aC,lk,e1,e2,e3,e4,e5,e6,e7,e8,e9,O,J,zi,C,IN]
 refine au rfl (λh1=>?_) λh1=>?_
 .refine ws (az ?_);refine ab (bD (cu (bc (aD (d:=I x.to) rfl ?_))));simp[dt,h1]
 refine cI (λs=>aL prog s ⟨ay [(1,.pt (aI x)),(4,U8 x.op),(23,B (aC mu x.op))],λ_=>none,1⟩) (aj ?_) λs hg=>⟨_,hg,?_⟩
 .refine af ?_;refine ab (au rfl (λh=>bd ?_) λzj=>aj ?_)
  .have h:x.op=30:=tn h
   refine ao ⟨rfl,rfl,?_,aa⟩;show D.s (.bool (x.op==30))=_;rw[h];rfl
  refine af ?_;refine ab (au rfl (λh=>bd ?_) λvy=>aj ?_)
  .have h:x.op=31:=tn h
   refine ao ⟨rfl,rfl,?_,aa⟩;show D.s (.bool (x.op==31))=_;rw[h];rfl
  refine af ?_;refine ab (au rfl (λh=>bd ?_) λzk=>aj ?_)
  .have h:x.op=32:=tn h
   refine ao ⟨rfl,rfl,?_,aa⟩;show D.s (.bool (x.op==32))=_;rw[h];rfl
  refine af ?_;refine ab (au rfl (λh=>bd ?_) λzl=>aj ?_)
  .have h:x.op=33:=tn h
   refine ao ⟨rfl,rfl,?_,aa⟩;show D.s (.bool (x.op==33))=_;rw[h];rfl
  refine af ?_;refine ab (au rfl (λh=>bd ?_) λwW=>aj ?_)
  .have h:x.op=34:=tn h
   refine ao ⟨rfl,rfl,?_,aa⟩;show D.s (.bool (x.op==34))=_;rw[h];rfl
  refine af ?_;refine ab (au rfl (λh=>bd ?_) λU=>eI ?_)
  .have h:x.op=36:=tn h
   refine ao ⟨rfl,rfl,?_,aa⟩;show D.s (.bool (x.op==36))=_;rw[h];rfl
  refine af ?_;refine ab (ao ⟨rfl,rfl,?_,aa⟩);show D.s (.bool (x.op==37))=_;simp[aC,mu,zj,vy,zk,zl,wW,U]
 refine au rfl (λh2=>?_) λh2=>?_
 .refine ws (az ?_);refine ab (bD (cu (bc (aD (d:=I x.to) rfl ?_))));simp[dt,h2]
 refine pw (aj (SS ?_));refine ab (aD (d:=I (-1)) rfl ?_);simp[dt,h1,h2]
def SV{x:Abs.End}:aE prog 31 [.agg (aR x)] (I (fI x)):=by
 have J:∀ a∈[D.agg (aR x)],Tr a:=.cons (.agg (ot x)) .nil;have Fz:=Fz (x:=x.ins);refine bN (fo f31) J (Tr.s _) ?_;refine aF (af ?_);refine ab (bF (cE [(0,aR x,48)] eH (l:=[(1,.pt (aR x))]) eH) (aM (aj ?_)));refine af ?_;refine ab (pQ (aj (af ?_)));refine ab (au rfl (λh1=>?_) λh1=>?_)
 .have h1:x.kind=5:=tn h1
  refine ws (aX ?_);refine ab (bD (cu (bc (aD (d:=I (dt x.ins)) rfl ?_))));simp[fI,h1]
 have h1:¬ x.kind=5:=tn h1
 refine cI (λs=>aL prog s ⟨ay [(1,.pt (aR x)),(4,U8 x.kind),(10,B (aC [6,7] x.kind))],λ_=>none,1⟩) (aj ?_) λs hg=>⟨_,hg,?_⟩
 .refine af ?_;refine ab (au rfl (λh=>bd ?_) λe6=>eI ?_)
  .have h:x.kind=6:=tn h
   refine ao ⟨rfl,rfl,?_,aa⟩;show D.s (.bool (x.kind==6))=_;rw[h];rfl
  refine af ?_;refine ab (ao ⟨rfl,rfl,?_,aa⟩);show D.s (.bool (x.kind==7))=_;simp[aC,e6]
 refine au rfl (λh2=>?_) λh2=>?_
 .refine ws (az ?_);refine ab (bD (cu (bc (aD (d:=I x.a) rfl ?_))));simp[fI,h1,h2]
 refine ws (af ?_);refine ab (au rfl (λC=>?_) λC=>?_)
 .have C:x.kind=8:=tn C
  refine ws (az ?_);refine ab (bD (cu (bc (aD (d:=I x.b) rfl ?_))));simp[fI,h2,C];simp[aC]
 have C:¬ x.kind=8:=tn C
 refine pw (aj (SS ?_));refine ab (aD (d:=I (-1)) rfl ?_);simp[fI,h1,h2,C]
def sW{l:List Int}(hl:l.length<=100000):aE prog 88 [av l] (av l):=by
 have C:∀ a∈[av l],Tr a:=.cons (cR _) .nil;refine bN (fo f88) C (cR _) ?_;have J:(l.map I).take (l.length*1)=l.map I:=cW oS
 have last:AW prog nk true (.seq (.region 3 (Z zO 3) false) .ret) (lE prog [.tmp 2] λd x=>d=av l) ⟨ay [(0,av l)],λ_=>none,0⟩:=by
  refine aF (af ?_);refine gf (fW rfl rfl rfl V.h V.h (jE J) rfl) ak ⟨V.h,rfl,c0,oC,eb,db,(by rw[b3];first|omega|(simp;omega)),ey⟩ (SS ?_);refine ab (bF (cE [(1,l.map I,3)] eH (l:=[(2,av l)]) ⟨?_,aa⟩) (aD rfl rfl));show uX _ [(1,l.map I,3)] (.rs 1 0 (0+l.length))=.sl (l.map I) l.length;rw[Nat.zero_add];exact kN c3 (cW oS)
 refine ws (SS ?_);refine ab (cI (λs=>aL prog s ⟨ay [(0,av l)],λ_=>none,0⟩) (aj ?_) λs hg=>⟨_,hg,last⟩)
 cases l with
 |nil=>
  refine SS ?_;refine ax (G3 rfl) ak V.h (ab (GF rfl (aF ?_) (bd (ao eH))));refine SS ?_;exact ab (bF (Bg (n0:=2) rfl) (bD (bc (aD rfl rfl))))
 |cons a l=>
  have O:(a::l).length≠0:=by simp
  refine SS ?_;exact ax (G4 rfl O) ak V.h (ab (au rfl (λh=>oH) λh=>bd (ao eH)))
def FN{x:Ins}(hx:x.op=10\/x.op=38->x.args.length<=1000):aE prog 25 [.agg (aI x)] (av (cN x)):=by
 have bB:∀ a∈[D.agg (aI x)],Tr a:=.cons (.agg (jP x)) .nil;refine bN (fo f25) bB (cR _) ?_;refine aF (af ?_);refine ab (bF (cE [(0,aI x,45)] eH (l:=[(1,.pt (aI x))]) eH) (aM (aj ?_)));refine af ?_;refine ab (pQ (cI (λs=>aL prog s ⟨ay [(1,.pt (aI x)),(4,U8 x.op),(5,B (aC my x.op))],λ_=>none,1⟩) (aj ?_) λs hg=>⟨_,hg,?_⟩))
 .refine af ?_;refine ab (au rfl (λh=>bd ?_) λe2=>aj ?_)
  .have h:x.op=2:=tn h
   refine ao ⟨rfl,rfl,?_,aa⟩;show D.s (.bool (x.op==2))=_;rw[h];rfl
  refine af ?_;refine ab (au rfl (λh=>bd ?_) λe8=>aj ?_)
  .have h:x.op=8:=tn h
   refine ao ⟨rfl,rfl,?_,aa⟩;show D.s (.bool (x.op==8))=_;rw[h];rfl
  refine af ?_;refine ab (au rfl (λh=>bd ?_) λU=>aj ?_)
  .have h:x.op=11:=tn h
   refine ao ⟨rfl,rfl,?_,aa⟩;show D.s (.bool (x.op==11))=_;rw[h];rfl
  refine af ?_;refine ab (au rfl (λh=>bd ?_) λzi=>aj ?_)
  .have h:x.op=13:=tn h
   refine ao ⟨rfl,rfl,?_,aa⟩;show D.s (.bool (x.op==13))=_;rw[h];rfl
  refine af ?_;refine ab (au rfl (λh=>bd ?_) λO=>aj ?_)
  .have h:x.op=14:=tn h
   refine ao ⟨rfl,rfl,?_,aa⟩;show D.s (.bool (x.op==14))=_;rw[h];rfl
  refine af ?_;refine ab (au rfl (λh=>bd ?_) λIP=>aj ?_)
  .have h:x.op=15:=tn h
   refine ao ⟨rfl,rfl,?_,aa⟩;show D.s (.bool (x.op==15))=_;rw[h];rfl
  refine af ?_;refine ab (au rfl (λh=>bd ?_) λIQ=>aj ?_)
  .have h:x.op=16:=tn h
   refine ao ⟨rfl,rfl,?_,aa⟩;show D.s (.bool (x.op==16))=_;rw[h];rfl
  refine af ?_;refine ab (au rfl (λh=>bd ?_) λX=>eI ?_)
  .have h:x.op=18:=tn h
   refine ao ⟨rfl,rfl,?_,aa⟩;show D.s (.bool (x.op==18))=_;rw[h];rfl
  refine af ?_;refine ab (ao ⟨rfl,rfl,?_,aa⟩);show D.s (.bool (x.op==36))=_;simp[aC,my,e2,e8,U,zi,O,IP,IQ,X]
 refine au rfl (λh1=>?_) λh1=>?_
 .refine aF (aX ?_);refine ab (bF (cE [(1,([x.a]).map I,3)] eH (l:=[(2,av ([x.a]))]) ⟨kN c3 rfl,aa⟩) (bD (cu (bc (aD (d:=av ([x.a])) rfl ?_)))));exact congrArg av (by rw[cN,bi h1])
 refine cI (λs=>aL prog s ⟨ay [(1,.pt (aI x)),(4,U8 x.op),(18,B (aC ow x.op))],λ_=>none,1⟩) (aj ?_) λs hg=>⟨_,hg,?_⟩
 .refine af ?_;refine ab (au rfl (λh=>bd ?_) λe3=>aj ?_)
  .have h:x.op=3:=tn h
   refine ao ⟨rfl,rfl,?_,aa⟩;show D.s (.bool (x.op==3))=_;rw[h];rfl
  refine af ?_;refine ab (au rfl (λh=>bd ?_) λe4=>aj ?_)
  .have h:x.op=4:=tn h
   refine ao ⟨rfl,rfl,?_,aa⟩;show D.s (.bool (x.op==4))=_;rw[h];rfl
  refine af ?_;refine ab (au rfl (λh=>bd ?_) λe5=>aj ?_)
  .have h:x.op=5:=tn h
   refine ao ⟨rfl,rfl,?_,aa⟩;show D.s (.bool (x.op==5))=_;rw[h];rfl
  refine af ?_;refine ab (au rfl (λh=>bd ?_) λe6=>aj ?_)
  .have h:x.op=6:=tn h
   refine ao ⟨rfl,rfl,?_,aa⟩;show D.s (.bool (x.op==6))=_;rw[h];rfl
  refine af ?_;refine ab (au rfl (λh=>bd ?_) λe7=>aj ?_)
  .have h:x.op=7:=tn h
   refine ao ⟨rfl,rfl,?_,aa⟩;show D.s (.bool (x.op==7))=_;rw[h];rfl
  refine af ?_;refine ab (au rfl (λh=>bd ?_) λTe=>aj ?_)
  .have h:x.op=12:=tn h
   refine ao ⟨rfl,rfl,?_,aa⟩;show D.s (.bool (x.op==12))=_;rw[h];rfl
  refine af ?_;refine ab (au rfl (λh=>bd ?_) λzj=>aj ?_)
  .have h:x.op=30:=tn h
   refine ao ⟨rfl,rfl,?_,aa⟩;show D.s (.bool (x.op==30))=_;rw[h];rfl
  refine af ?_;refine ab (au rfl (λh=>bd ?_) λvy=>aj ?_)
  .have h:x.op=31:=tn h
   refine ao ⟨rfl,rfl,?_,aa⟩;show D.s (.bool (x.op==31))=_;rw[h];rfl
  refine af ?_;refine ab (au rfl (λh=>bd ?_) λzk=>aj ?_)
  .have h:x.op=32:=tn h
   refine ao ⟨rfl,rfl,?_,aa⟩;show D.s (.bool (x.op==32))=_;rw[h];rfl
  refine af ?_;refine ab (au rfl (λh=>bd ?_) λzl=>aj ?_)
  .have h:x.op=33:=tn h
   refine ao ⟨rfl,rfl,?_,aa⟩;show D.s (.bool (x.op==33))=_;rw[h];rfl
  refine af ?_;refine ab (au rfl (λh=>bd ?_) λwW=>aj ?_)
  .have h:x.op=34:=tn h
   refine ao ⟨rfl,rfl,?_,aa⟩;show D.s (.bool (x.op==34))=_;rw[h];rfl
  refine af ?_;refine ab (au rfl (λh=>bd ?_) λdC=>eI ?_)
  .have h:x.op=35:=tn h
   refine ao ⟨rfl,rfl,?_,aa⟩;show D.s (.bool (x.op==35))=_;rw[h];rfl
  refine af ?_;refine ab (ao ⟨rfl,rfl,?_,aa⟩);show D.s (.bool (x.op==37))=_;simp[aC,ow,e3,e4,e5,e6,e7,Te,zj,vy,zk,zl,wW,dC]
 refine au rfl (λh2=>?_) λh2=>?_
 .refine aF (cB ?_);refine ab (bF (cE [(1,([x.a,x.b]).map I,3)] eH (l:=[(2,av ([x.a,x.b]))]) ⟨kN c3 rfl,aa⟩) (bD (cu (bc (aD (d:=av ([x.a,x.b])) rfl ?_)))));exact congrArg av (by rw[cN,ai (by simp[h1]),bi h2])
 refine ws (af ?_);refine ab (au rfl (λC=>?_) λC=>?_)
 .have C:x.op=10:=tn C
  have sW:=sW (l:=x.args) (by have:=hx (.inl C);omega);refine ws (aX ?_);refine ab (bD (cu (bc (aD (d:=av x.args) rfl ?_))));exact congrArg av (by rw[cN,ai (by simp[h1]),ai (by simp[h2]),bi C])
 have C:¬ x.op=10:=tn C
 refine ws (af ?_);refine ab (au rfl (λJ=>?_) λJ=>?_)
 .have J:x.op=38:=tn J
  have hl:=hx (.inr J);have fE:(x.args.map I).take (x.args.length*1)=x.args.map I:=cW oS;refine aF (eD ?_);refine gf (fW rfl rfl rfl V.h V.h (jE fE) rfl) ak ⟨V.h,rfl,c0,oC,eb,db,(by rw[b3];first|omega|(simp;omega)),ey⟩ (SS ?_);refine ab (bF (cE [(2,(x.a::x.b::x.args).map I,3)] eH (l:=[(2,av (x.a::x.b::x.args))]) ⟨?_,aa⟩) (bD (cu (bc (aD (d:=av (x.a::x.b::x.args)) rfl ?_)))))
  .show uX _ [(2,_,3)] (.rs 2 0 (2+x.args.length))=_;refine(kN c3 (es:=(x.a::x.b::x.args).map I) (cW oP)).trans ?_;rw[Nat.add_comm];rfl
  .exact congrArg av (by rw[cN,ai (by simp[h1]),ai (by simp[h2]),ai C,bi J])
 have J:¬ x.op=38:=tn J
 refine pw (aF (SS ?_));refine ab (bF (Bg (n0:=2) rfl) (aD (d:=av []) rfl ?_));exact congrArg av (by rw[cN,ai (by simp[h1]),ai (by simp[h2]),ai C,ai J])
def SY{x:Abs.End}(hx:x.kind=5->x.ins.op=10\/x.ins.op=38->x.ins.args.length<=1000)(hy:x.kind=6\/x.kind=7->x.args.length<=1000):aE prog 29 [.agg (aR x)] (av (dB x)):=by
 have O:∀ a∈[D.agg (aR x)],Tr a:=.cons (.agg (ot x)) .nil;refine bN (fo f29) O (cR _) ?_;refine aF (af ?_);refine ab (bF (cE [(0,aR x,48)] eH (l:=[(1,.pt (aR x))]) eH) (aM (aj ?_)));refine af ?_;refine ab (pQ (cI (λs=>aL prog s ⟨ay [(1,.pt (aR x)),(4,U8 x.kind),(5,B (aC [2,8,9] x.kind))],λ_=>none,1⟩) (aj ?_) λs hg=>⟨_,hg,?_⟩))
 .refine af ?_;refine ab (au rfl (λh=>bd ?_) λe2=>aj ?_)
  .have h:x.kind=2:=tn h
   refine ao ⟨rfl,rfl,?_,aa⟩;show D.s (.bool (x.kind==2))=_;rw[h];rfl
  refine af ?_;refine ab (au rfl (λh=>bd ?_) λe8=>eI ?_)
  .have h:x.kind=8:=tn h
   refine ao ⟨rfl,rfl,?_,aa⟩;show D.s (.bool (x.kind==8))=_;rw[h];rfl
  refine af ?_;refine ab (ao ⟨rfl,rfl,?_,aa⟩);show D.s (.bool (x.kind==9))=_;simp[aC,e2,e8]
 refine au rfl (λh1=>?_) λh1=>?_
 .refine aF (aX ?_);refine ab (bF (cE [(1,([x.a]).map I,3)] eH (l:=[(2,av ([x.a]))]) ⟨kN c3 rfl,aa⟩) (bD (cu (bc (aD (d:=av ([x.a])) rfl ?_)))));exact congrArg av (by rw[dB,bi h1])
 refine ws (af ?_);refine ab (au rfl (λh2=>?_) λh2=>?_)
 .have h2:x.kind=3:=tn h2
  refine ws (az ?_);refine ab (au rfl (λC=>?_) λC=>?_)
  .have C:¬ x.a= -1:=by simpa[bne,ib] using C
   refine aF (aX ?_);refine ab (bF (cE [(1,([x.a]).map I,3)] eH (l:=[(2,av ([x.a]))]) ⟨kN c3 rfl,aa⟩) (bD (cu (bc (aD (d:=av ([x.a])) rfl ?_)))));exact congrArg av (by rw[dB,ai (by simp[h1]),bi h2,bi C])
  .have C:x.a= -1:=by simpa[bne,ib] using C
   refine pw (aF (SS ?_));refine ab (bF (Bg (n0:=2) rfl) (aD (d:=av []) rfl ?_));exact congrArg av (by rw[dB,ai (by simp[h1]),bi h2,ai (by simp[C])])
 have h2:¬ x.kind=3:=tn h2
 refine ws (af ?_);refine ab (au rfl (λC=>?_) λC=>?_)
 .have C:x.kind=5:=tn C
  have FN:=FN (x:=x.ins) (hx C);refine ws (aX ?_);refine ab (bD (cu (bc (aD (d:=av (cN x.ins)) rfl ?_))));exact congrArg av (by rw[dB,ai (by simp[h1]),ai h2,bi C])
 have C:¬ x.kind=5:=tn C
 refine cI (λs=>aL prog s ⟨ay [(1,.pt (aR x)),(4,U8 x.kind),(25,B (aC [6,7] x.kind))],λ_=>none,1⟩) (aj ?_) λs hg=>⟨_,hg,?_⟩
 .refine af ?_;refine ab (au rfl (λh=>bd ?_) λe6=>eI ?_)
  .have h:x.kind=6:=tn h
   refine ao ⟨rfl,rfl,?_,aa⟩;show D.s (.bool (x.kind==6))=_;rw[h];rfl
  refine af ?_;refine ab (ao ⟨rfl,rfl,?_,aa⟩);show D.s (.bool (x.kind==7))=_;simp[aC,e6]
 refine au rfl (λJ=>?_) λJ=>?_
 .have U:x.kind=6\/x.kind=7:=by simpa[aC] using J
  have sW:=sW (l:=x.args) (by have:=hy U;omega);refine ws (aX ?_);refine ab (bD (cu (bc (aD (d:=av x.args) rfl ?_))));exact congrArg av (by rw[dB,ai (by simp[h1]),ai h2,ai C,bi J])
 refine pw (aF (SS ?_));refine ab (bF (Bg (n0:=2) rfl) (aD (d:=av []) rfl ?_));exact congrArg av (by rw[dB,ai (by simp[h1]),ai h2,ai C,ai (by simp[J])])
def wG{l:List Int}{g:FuncId}{fs cs:List D}{p:Int->Int}(hl:l.length<=1000000)(ht:Tr (.fn (.func g) fs cs))(hg:∀ x∈l,aE prog g (fs++[I x]++cs) (I (p x))):aE prog 106 [av l,.fn (.func g) fs cs] (av (l.map p)):=by
 refine bN (fo f106) (.cons (cR _) (.cons ht .nil)) (cR _) ?_;refine ws (SS ?_);refine ab (aF (SS ?_));refine ab ⟨_,.mz _ _ _ 5 3 rfl,aM (aF ?_)⟩;refine az ?_
 refine ab (cJ (λs=>∃ r m nx,aL prog s ⟨ay [(5,.rs r 0 l.length)],m,nx⟩/\m r=some (.cells ((l.map p).map I) 3)) (gl (α:=Nat×Nat×Mem×Nat)
  (λs=>⟨ay [(1,.fn (.func g) fs cs),(5,.rs s.2.1 0 s.1),(8,av l),(9,I l.length),(10,I s.1)],s.2.2.1,s.2.2.2⟩)
  (λs=>s.1<=l.length/\s.2.1<s.2.2.2/\s.2.2.1 s.2.1=some (.cells (((l.take s.1).map p).map I) 3)) (λs=>l.length - s.1) (0,_,_,_)
  (ao eH) ⟨Nat.zero_le _,Nat.lt_succ_self _,rfl⟩ ?_) ?_)
 .rintro⟨j,r,m,nx⟩ ⟨hj,hr,an⟩;dsimp only at hj hr an ⊢;refine SS ?_;refine ab ⟨_,rfl,λh=>?_,λh=>?_⟩
  .have O:j<l.length:=tn h
   have hx:l[j]? =some l[j]:=by simp[O]
   have J:=hg l[j] (dG _)
   have C:((l.take (j+1)).map p).map I=((l.take j).map p).map I++[I (p l[j])]:=by
    rw[take_add_one,hx,map_append,map_append];rfl
   have U:(((l.take j).map p).map I).length=j:=by simp;omega
   generalize l[j]=x at hx J C;generalize ((l.take j).map p).map I=ds at an C U;refine ws (az ?_);refine ab (gE (eD ?_));refine ab (af ?_);refine ab (bA (j+1,nx+1,_,_) (ao eH) ⟨oM,oM,?_⟩ oM);dsimp only;rw[C];exact ap _ _ _
  .have X:¬ j<l.length:=tn h
   have:j=l.length:=by omega
   subst this;rw[take_length] at an;exact⟨r,m,nx,ao eH,an⟩
 .rintro s ⟨r,m,nx,hg,an⟩;refine⟨_,hg,aF ?_⟩;refine af ?_;refine ab (bF (cE [(r,_,3)] ⟨an,aa⟩ (l:=[(4,av (l.map p))]) ⟨?_,aa⟩) (aD rfl rfl));exact(kN c3 (es:=(l.map p).map I) (by rw[Nat.mul_one,drop_zero,cW oS])).trans oS
def Ze{l:List Ins}{g:FuncId}{fs cs:List D}{p:Ins->Ins}(hl:l.length<=1000000)(ht:Tr (.fn (.func g) fs cs))(hg:∀ x∈l,aE prog g (fs++[.agg (aI x)]++cs) (.agg (aI (p x)))):mV prog 103 [eV l,.fn (.func g) fs cs] ((l.map p).flatMap aI) l.length 45:=by
 refine y6 (fo f103) (.cons (WO _) (.cons ht .nil)) (.flat jP) ?_;refine ws (SS ?_);refine ab (aF (SS ?_));refine ab ⟨_,.mz _ _ _ 5 45 rfl,aM (aF ?_)⟩;refine az ?_
 refine ab (cJ (λs=>∃ r m nx,aL prog s ⟨ay [(5,.rs r 0 l.length)],m,nx⟩/\m r=some (.cells ((l.map p).flatMap aI) 45)) (gl (α:=Nat×Nat×Mem×Nat)
  (λs=>⟨ay [(1,.fn (.func g) fs cs),(5,.rs s.2.1 0 s.1),(8,eV l),(9,I l.length),(10,I s.1)],s.2.2.1,s.2.2.2⟩)
  (λs=>s.1<=l.length/\s.2.1<s.2.2.2/\s.2.2.1 s.2.1=some (.cells (((l.take s.1).map p).flatMap aI) 45)) (λs=>l.length - s.1) (0,_,_,_)
  (ao eH) ⟨Nat.zero_le _,Nat.lt_succ_self _,rfl⟩ ?_) ?_)
 .rintro⟨j,r,m,nx⟩ ⟨hj,hr,an⟩;dsimp only at hj hr an ⊢;refine SS ?_;refine ab ⟨_,rfl,λh=>?_,λh=>?_⟩
  .have U:j<l.length:=tn h
   have hx:l[j]? =some l[j]:=by simp[U]
   have O:=hg l[j] (dG _)
   have C:((l.take (j+1)).map p).flatMap aI=((l.take j).map p).flatMap aI++aI (p l[j]):=by
    rw[take_add_one,hx,map_append,flatMap_append];simp
   have J:(((l.take j).map p).flatMap aI).length=j*6:=by
    rw[pd (sz:=6) (λ_=>rfl),length_map,length_take];congr 1;omega
   generalize l[j]=x at hx O C;generalize ((l.take j).map p).flatMap aI=ds at an C J;refine ws (aX ?_);refine ab (gE (bG ?_));refine gf (fW rfl (aq oG (aq oG (aq oG an))) rfl Mp kG (gV s3 rfl) rfl) aB ⟨LF,rfl,aP rfl,oC,by rw[J];omega,by unfold maxLen;omega,by rw[Mq];omega,by simp;omega⟩ (SS ?_);refine ab (af ?_);refine ab (bA (j+1,nx+1+1,_,_) (ao eH) ⟨oM,oM,?_⟩ oM);dsimp only;rw[C];exact ap _ _ _
  .have X:¬ j<l.length:=tn h
   have:j=l.length:=by omega
   subst this;rw[take_length] at an;exact⟨r,m,nx,ao eH,an⟩
 .rintro s ⟨r,m,nx,hg,an⟩;refine⟨_,hg,aj ?_⟩;refine af ?_;refine ab (aD rfl ⟨r,rfl,an⟩)
def tF{l:List Ins}{g:FuncId}{fs cs:List D}{p:Ins->Ins}(hl:l.length<=1000000)(ht:Tr (.fn (.func g) fs cs))(hg:∀ x∈l,aE prog g (fs++[.agg (aI x)]++cs) (.agg (aI (p x)))):aE prog 103 [eV l,.fn (.func g) fs cs] (eV (l.map p)):=by
 have e:((l.map p).flatMap aI).take (l.length*prog.cellsOf 45)=(l.map p).flatMap aI:=by
  rw[kG,s9 (f:=aI) (sz:=6) (λ_=>rfl),cW oS]
 have h:=(Ze hl ht hg).Kw (by rw[e];exact .sl (.flat jP));rw[e] at h;show aE prog 103 _ (.sl ((l.map p).flatMap aI) (l.map p).length);rw[length_map];exact h
section
variable{l:List Int}{g:FuncId}{p:Int->Bool}
def Rr{fs cs:List D}(ht:Tr (.fn (.func g) fs cs))(hg:∀ x∈l,aE prog g (fs++[U8 x]++cs) (B (p x))):aE prog 270 [cH l,.fn (.func g) fs cs] (I (wF p l)):=by
 refine qP (fo f270).he (.cons (r6 _) (.cons ht .nil)) λJ=>?_;have hlen:=(J (cH l) oS).sl.1;unfold maxLen at hlen;refine bN (fo f270) (.cons (r6 _) (.cons ht .nil)) (Tr.s _) ?_;refine ws (SS ?_);refine ab (aM (aF (az ?_)))
 refine ab (cJ (λs=>aL prog s ⟨ay [],λ_=>none,0⟩/\∀ (j:Nat) y,l[j]? =some y->p y=false) (gl (α:=Nat) (λk=>⟨ay [(0,cH l),(1,.fn (.func g) fs cs),(7,I l.length),(8,I k)],λ_=>none,0⟩)
  (λk=>k<=l.length/\∀ j y,j<k->l[j]? =some y->p y=false) (λk=>l.length - k) 0 (ao eH) ⟨oG,λj y hj=>by omega⟩ ?_) ?_)
 .rintro k ⟨hk,hinv⟩;refine SS ?_;refine ab ⟨_,rfl,λh=>?_,λh=>?_⟩
  .have al:k<l.length:=tn h
   have hx:l[k]? =some l[k]:=by simp[al]
   generalize l[k]=x at hx;have O:=hg x (cL hx);refine ws (af ?_);refine er (cB ?_);refine ab (au rfl (λhp=>?_) λhp=>?_)
   .refine ws (af ?_);refine ab (bD (dd (bc (aD rfl ?_))));rw[Jl hx hp hinv];rfl
   .refine eQ (af ?_);refine ab (bA (k+1) (ao eH) ⟨oG,λj y hj hy=>?_⟩ oG);by_cases e:j=k
    .subst e;rw[hx] at hy;cases hy;exact hp
    .exact hinv j y oG hy
  .have U:¬ k<l.length:=tn h
   exact⟨.forget _ _ _ _ λ_=>.inr rfl,λj y hy=>hinv j y (by have:=(bO.1 hy).1;omega) hy⟩
 .rintro s ⟨hg,C⟩;refine⟨_,hg,aj ?_⟩;refine SS ?_;refine ab (aD rfl ?_);rw[Jm C];rfl
def yG{l:List Int}{g:FuncId}{fs cs:List D}{p:Int->Bool}(ht:Tr (.fn (.func g) fs cs))(hg:∀ x∈l,aE prog g (fs++[U8 x]++cs) (B (p x))):aE prog 204 [cH l,.fn (.func g) fs cs] (B (l.any p)):=by
 have Rr:=Rr ht hg;refine bN (fo f204) (.cons (r6 _) (.cons ht .nil)) (Tr.s _) ?_;refine ws (SS ?_);refine er (bG ?_);refine ab (aD rfl ?_);rw[<- JB];rfl
def Rt{l:List ByteArray}{fs cs:List D}{p:ByteArray->Bool}(ht:Tr (.fn (.func g) fs cs))(hg:∀ x∈l,aE prog g (fs++[S x]++cs) (B (p x))):aE prog 207 [io l,.fn (.func g) fs cs] (I (wF p l)):=by
 refine qP (fo f207).he (.cons (xM _) (.cons ht .nil)) λJ=>?_;have hlen:=(J (io l) oS).sl.1;unfold maxLen at hlen;refine bN (fo f207) (.cons (xM _) (.cons ht .nil)) (Tr.s _) ?_;refine ws (SS ?_);refine ab (aM (aF (az ?_)))
 refine ab (cJ (λs=>aL prog s ⟨ay [],λ_=>none,0⟩/\∀ (j:Nat) y,l[j]? =some y->p y=false) (gl (α:=Nat) (λk=>⟨ay [(0,io l),(1,.fn (.func g) fs cs),(7,I l.length),(8,I k)],λ_=>none,0⟩)
  (λk=>k<=l.length/\∀ j y,j<k->l[j]? =some y->p y=false) (λk=>l.length - k) 0 (ao eH) ⟨oG,λj y hj=>by omega⟩ ?_) ?_)
 .rintro k ⟨hk,hinv⟩;refine SS ?_;refine ab ⟨_,rfl,λh=>?_,λh=>?_⟩
  .have al:k<l.length:=tn h
   have hx:l[k]? =some l[k]:=by simp[al]
   generalize l[k]=x at hx;have O:=hg x (cL hx);refine ws (af ?_);refine er (cB ?_);refine ab (au rfl (λhp=>?_) λhp=>?_)
   .refine ws (af ?_);refine ab (bD (dd (bc (aD rfl ?_))));rw[Jl hx hp hinv];rfl
   .refine eQ (af ?_);refine ab (bA (k+1) (ao eH) ⟨oG,λj y hj hy=>?_⟩ oG);by_cases e:j=k
    .subst e;rw[hx] at hy;cases hy;exact hp
    .exact hinv j y oG hy
  .have U:¬ k<l.length:=tn h
   exact⟨.forget _ _ _ _ λ_=>.inr rfl,λj y hy=>hinv j y (by have:=(bO.1 hy).1;omega) hy⟩
 .rintro s ⟨hg,C⟩;refine⟨_,hg,aj ?_⟩;refine SS ?_;refine ab (aD rfl ?_);rw[Jm C];rfl
def LC{l:List ByteArray}{g:FuncId}{fs cs:List D}{p:ByteArray->Bool}(ht:Tr (.fn (.func g) fs cs))(hg:∀ x∈l,aE prog g (fs++[S x]++cs) (B (p x))):aE prog 139 [io l,.fn (.func g) fs cs] (B (l.any p)):=by
 have Rt:=Rt ht hg;refine bN (fo f139) (.cons (xM _) (.cons ht .nil)) (Tr.s _) ?_;refine ws (SS ?_);refine er (bG ?_);refine ab (aD rfl ?_);rw[<- JB];rfl
def Ru{l:List iO}{fs cs:List D}{p:iO->Bool}(ht:Tr (.fn (.func g) fs cs))(hg:∀ x∈l,aE prog g (fs++[.agg (cK x)]++cs) (B (p x))):aE prog 294 [lg l,.fn (.func g) fs cs] (I (wF p l)):=by
 refine qP (fo f294).he (.cons (lh _) (.cons ht .nil)) λJ=>?_;have hlen:=(J (lg l) oS).sl.1;unfold maxLen at hlen;refine bN (fo f294) (.cons (lh _) (.cons ht .nil)) (Tr.s _) ?_;refine ws (SS ?_);refine ab (aM (aF (az ?_)))
 refine ab (cJ (λs=>aL prog s ⟨ay [],λ_=>none,0⟩/\∀ (j:Nat) y,l[j]? =some y->p y=false) (gl (α:=Nat) (λk=>⟨ay [(0,lg l),(1,.fn (.func g) fs cs),(7,I l.length),(8,I k)],λ_=>none,0⟩)
  (λk=>k<=l.length/\∀ j y,j<k->l[j]? =some y->p y=false) (λk=>l.length - k) 0 (ao eH) ⟨oG,λj y hj=>by omega⟩ ?_) ?_)
 .rintro k ⟨hk,hinv⟩;refine SS ?_;refine ab ⟨_,rfl,λh=>?_,λh=>?_⟩
  .have al:k<l.length:=tn h
   have hx:l[k]? =some l[k]:=by simp[al]
   generalize l[k]=x at hx;have O:=hg x (cL hx);refine ws (af ?_);refine er (cB ?_);refine ab (au rfl (λhp=>?_) λhp=>?_)
   .refine ws (af ?_);refine ab (bD (dd (bc (aD rfl ?_))));rw[Jl hx hp hinv];rfl
   .refine eQ (af ?_);refine ab (bA (k+1) (ao eH) ⟨oG,λj y hj hy=>?_⟩ oG);by_cases e:j=k
    .subst e;rw[hx] at hy;cases hy;exact hp
    .exact hinv j y oG hy
  .have U:¬ k<l.length:=tn h
   exact⟨.forget _ _ _ _ λ_=>.inr rfl,λj y hy=>hinv j y (by have:=(bO.1 hy).1;omega) hy⟩
 .rintro s ⟨hg,C⟩;refine⟨_,hg,aj ?_⟩;refine SS ?_;refine ab (aD rfl ?_);rw[Jm C];rfl
def HH{l:List iO}{g:FuncId}{fs cs:List D}{p:iO->Bool}(ht:Tr (.fn (.func g) fs cs))(hg:∀ x∈l,aE prog g (fs++[.agg (cK x)]++cs) (B (p x))):aE prog 272 [lg l,.fn (.func g) fs cs] (B (l.any p)):=by
 have Ru:=Ru ht hg;refine bN (fo f272) (.cons (lh _) (.cons ht .nil)) (Tr.s _) ?_;refine ws (SS ?_);refine er (bG ?_);refine ab (aD rfl ?_);rw[<- JB];rfl
def Rv{fs cs:List D}(ht:Tr (.fn (.func g) fs cs))(hg:∀ x∈l,aE prog g (fs++[I x]++cs) (B (p x))):aE prog 159 [av l,.fn (.func g) fs cs] (I (wF p l)):=by
 refine qP (fo f159).he (.cons (cR _) (.cons ht .nil)) λJ=>?_;have hlen:=(J (av l) oS).sl.1;unfold maxLen at hlen;refine bN (fo f159) (.cons (cR _) (.cons ht .nil)) (Tr.s _) ?_;refine ws (SS ?_);refine ab (aM (aF (az ?_)))
 refine ab (cJ (λs=>aL prog s ⟨ay [],λ_=>none,0⟩/\∀ (j:Nat) y,l[j]? =some y->p y=false) (gl (α:=Nat) (λk=>⟨ay [(0,av l),(1,.fn (.func g) fs cs),(7,I l.length),(8,I k)],λ_=>none,0⟩)
  (λk=>k<=l.length/\∀ j y,j<k->l[j]? =some y->p y=false) (λk=>l.length - k) 0 (ao eH) ⟨oG,λj y hj=>by omega⟩ ?_) ?_)
 .rintro k ⟨hk,hinv⟩;refine SS ?_;refine ab ⟨_,rfl,λh=>?_,λh=>?_⟩
  .have al:k<l.length:=tn h
   have hx:l[k]? =some l[k]:=by simp[al]
   generalize l[k]=x at hx;have O:=hg x (cL hx);refine ws (af ?_);refine er (cB ?_);refine ab (au rfl (λhp=>?_) λhp=>?_)
   .refine ws (af ?_);refine ab (bD (dd (bc (aD rfl ?_))));rw[Jl hx hp hinv];rfl
   .refine eQ (af ?_);refine ab (bA (k+1) (ao eH) ⟨oG,λj y hj hy=>?_⟩ oG);by_cases e:j=k
    .subst e;rw[hx] at hy;cases hy;exact hp
    .exact hinv j y oG hy
  .have U:¬ k<l.length:=tn h
   exact⟨.forget _ _ _ _ λ_=>.inr rfl,λj y hy=>hinv j y (by have:=(bO.1 hy).1;omega) hy⟩
 .rintro s ⟨hg,C⟩;refine⟨_,hg,aj ?_⟩;refine SS ?_;refine ab (aD rfl ?_);rw[Jm C];rfl
def Fy{l:List Int}{g:FuncId}{fs cs:List D}{p:Int->Bool}(ht:Tr (.fn (.func g) fs cs))(hg:∀ x∈l,aE prog g (fs++[I x]++cs) (B (p x))):aE prog 77 [av l,.fn (.func g) fs cs] (B (l.any p)):=by
 have Rv:=Rv ht hg;refine bN (fo f77) (.cons (cR _) (.cons ht .nil)) (Tr.s _) ?_;refine ws (SS ?_);refine er (bG ?_);refine ab (aD rfl ?_);rw[<- JB];rfl
end
def la{n a b:Int}:aE prog 74 [I n,I a,I b] (B (dz n a b)):=by
 refine bN (fo f74) (by simp[Tr.s]) (Tr.s _) ?_;refine ws (SS ?_);refine er (bg ?_);refine ab (aD (d:=.s (.bool _)) rfl ?_);simp[dz]
def apr{b:Int}:aE prog 205 [U8 b] (B (vF b)):=by
 refine bN (fo f205) (by simp[Tr.s]) (Tr.s _) ?_;refine ws (SS ?_);refine er (eD ?_);refine ab (aD (d:=.s (.bool _)) rfl ?_);simp[vF]
def aps{b:Int}:aE prog 208 [U8 b] (B (vG b)):=by
 refine bN (fo f208) (by simp[Tr.s]) (Tr.s _) ?_;refine ws (SS ?_);refine er (bg ?_);refine cB ?_;refine ab (aD (d:=.s (.bool _)) rfl ?_);simp[vG]
def uH{s:ByteArray}:aE prog 137 [S s] (B (nM s)):=by
 refine bN (fo f137) (by simp[Tr.s]) (Tr.s _) ?_;have yG:=yG (l:=dJ s) (g:=205) (fs:=[]) (cs:=[]) (p:=vF) (.fn oS oS) (λx _=>apr);refine ws (SS ?_);refine er (af ?_);refine cl la ?_;refine af ?_;refine cq rfl rfl (Vo rfl V.h V.h) (λhc=>⟨ak,⟨V.h,by have:=jF.1 (by simpa using hc);unfold maxLen;omega⟩⟩) (gc yG ?_);refine az ?_;refine ab (aD (d:=.s (.bool _)) rfl ?_);simp[nM]
def HT{s:ByteArray}:aE prog 141 [S s] (B (isName s)):=by
 refine bN (fo f141) (by simp[Tr.s]) (Tr.s _) ?_;have yG:=yG (l:=dJ s) (g:=208) (fs:=[]) (cs:=[]) (p:=vG) (.fn oS oS) (λx _=>aps);refine ws (SS ?_);refine er (af ?_);refine cl la ?_;refine af ?_;refine cq rfl rfl (Vo rfl V.h V.h) (λhc=>⟨ak,⟨V.h,by have:=jF.1 (by simpa using hc);unfold maxLen;omega⟩⟩) (gc yG ?_);refine az ?_;refine ab (aD (d:=.s (.bool _)) rfl ?_);simp[isName]
def apt{s:ByteArray}:aE prog 140 [S s] (B !(isName s)):=by
 refine bN (fo f140) (by simp[Tr.s]) (Tr.s _) ?_;refine ws (SS ?_);refine er (SS ?_);refine cl HT ?_;refine af ?_;refine ab (aD rfl rfl)
def apu{b m:Int}:aE prog 206 [U8 b,.pt [U8 m]] (B (pj m b)):=by
 refine bN (fo f206) (.cons (.s _) (.cons (.pt (by simp[Tr.s])) .nil)) (Tr.s _) ?_;refine ws (SS ?_);refine er (cF ?_);refine ab (aD (d:=.s (.bool _)) rfl ?_);simp[pj]
def RJ{l:List Int}{m:Int}:aE prog 138 [cH l,U8 m] (B (gm l m)):=by
 refine bN (fo f138) (.cons (r6 _) fl) (Tr.s _) ?_;have yG:=yG (l:=l) (g:=206) (fs:=[]) (cs:=[.pt [U8 m]]) (p:=pj m) (.fn oS (.cons (.pt (by simp[Tr.s])) .nil)) (λx _=>apu);refine aF (cY (Ks (d:=.s (.int _ _)) rfl rfl) ak rfl (SS ?_));refine ab (bF (cE [(0,[U8 m],5)] eH (l:=[(0,cH l),(3,.pt [U8 m])]) eH) (aj ?_));refine bG ?_;refine ab (aD rfl rfl)
def NT{p q:D}{f:aO}(h:Real (.agg (bR p q f))):f.ag.length<=maxLen/\f.aU.length<=maxLen/\f.signals.length<=maxLen/\f.blocks.length<=maxLen:=
 ⟨(h.agg (cH f.ag) (by simp[bR])).sl.1,(h.agg (cH f.aU) (by simp[bR])).sl.1,(h.agg (io f.signals) (by simp[bR])).sl.1,(h.agg (fA f.blocks) (by simp[bR])).sl.1⟩
section
variable{p q:D}{f:aO}(hp:Tr p)(hq:Tr q)(ie:p.one=true)(gh:q.one=true)
include hp hq ie gh
def l9{n:Int}:aE prog 209 [.agg (bR p q f),I n] (B (dz n 0 (f.blocks.length - 1))):=by
 have C:∀ a∈[D.agg (bR p q f),I n],Tr a:=.cons (po hp hq f) fl;refine qP (fo f209).he C λJ=>?_;let⟨l1,l2,l3,l4⟩:=NT (J _ (mem_cons_self ..));unfold maxLen at*
 refine bN (fo f209) C (Tr.s _) ?_;refine ws (af ?_);refine er (cB ?_);refine cl la ?_;refine SS ?_;refine ab (aD rfl rfl)
def gP{r:Int}:aE prog 210 [.agg (bR p q f),I r] (U8 (cV f.ag r)):=by
 have C:∀ a∈[D.agg (bR p q f),I r],Tr a:=.cons (po hp hq f) fl;refine qP (fo f210).he C λJ=>?_;let⟨l1,l2,l3,l4⟩:=NT (J _ (mem_cons_self ..));unfold maxLen at*
 refine bN (fo f210) C (Tr.s _) ?_;refine ws (af ?_);refine ab (aM (aj (cB ?_)));refine cl la ?_;refine SS ?_;refine ab (cG rfl (λh=>?_) λh=>?_)
 .refine aM (aj (SS ?_));refine ab (dX (aD rfl ?_));rw[NS (λhh=>by simp[dz] at h;omega)];rfl
 .have hh:0<=r/\r<f.ag.length:=by simp[dz] at h;omega
  obtain⟨i,rfl⟩:=fc hh.1;have al:i<f.ag.length:=by omega
  have hx:f.ag[i]? =some f.ag[i]:=by simp[al]
  generalize f.ag[i]=x at hx;refine dn (aj (eD ?_));refine ab (aD rfl ?_);rw[vH hx];rfl
theorem apD{r:Int}:aE prog 274 [I r,.pt (bR p q f)] (B !(fB f.ag r)):=by
 have C:∀ a∈[I r,D.pt (bR p q f)],Tr a:=.cons (.s _) (.cons (.pt (Gx hp hq f)) .nil);have gP:=gP (f:=f) (r:=r) hp hq ie gh;refine bN (fo f274) C (Tr.s _) ?_;refine ws (SS ?_);refine er (bg ?_);refine af ?_;refine ab (aD (d:=.s (.bool _)) rfl ?_);unfold fB;generalize cV f.ag r=k;show D.s (.bool _)=D.s (.bool _);simp only[bne];cases (k==1)<;>cases (k==2)<;>rfl
def j9{l:List Int}:aE prog 213 [.agg (bR p q f),av l] (B (iX f.ag l)):=by
 have C:∀ a∈[D.agg (bR p q f),av l],Tr a:=.cons (po hp hq f) (.cons (cR _) .nil);have Fy:=Fy (l:=l) (g:=274) (fs:=[]) (cs:=[.pt (bR p q f)]) (p:=λr=> !(fB f.ag r)) (.fn oS (.cons (.pt (Gx hp hq f)) .nil)) (λx _=>apD hp hq ie gh);refine bN (fo f213) C (Tr.s _) ?_;refine aF (af ?_);refine ab (bF (cE [(0,bR p q f,93)] eH (l:=[(1,av l),(2,.pt (bR p q f))]) eH) (aj ?_));refine af ?_;refine cl Fy ?_;refine af ?_;refine ab (aD (d:=.s (.bool _)) rfl ?_);simp[iX,all_eq_not_any_not]
theorem LS{r n:Int}:aE prog 215 [.agg (bR p q f),I r,I n] (B (oK f.ag f.aU r n)):=by
 have J:∀ a∈[D.agg (bR p q f),I r,I n],Tr a:=.cons (po hp hq f) (.cons (.s _) fl);refine qP (fo f215).he J λO=>?_;let⟨l1,l2,l3,l4⟩:=NT (O _ (mem_cons_self ..));unfold maxLen at*
 have gP:=gP (f:=f) (r:=r) hp hq ie gh;refine bN (fo f215) J (Tr.s _) ?_;have la:=la (n:=n) (a:=0) (b:=f.aU.length - 1);by_cases hh:0<=n/\n<f.aU.length
 .obtain⟨i,rfl⟩:=fc hh.1;have al:i<f.aU.length:=by omega
  have hx:f.aU[i]? =some f.aU[i]:=by simp[al]
  generalize f.aU[i]=x at hx;have C:dz (i:Int) 0 (f.aU.length - 1)=true:=jF.2 oG;rw[C] at la;refine ws (af ?_);refine ab (eJ (ij [(10,11),(10,12),(10,13),(10,15),(10,16)]) ?_);refine cF ?_;refine cq rfl rfl (dL (vs:=bR _ _ _) rfl rfl V.h V.h rfl) (λhc=>⟨ak,(dN V.h V.h da)⟩) (bg ?_);refine af ?_;refine bU bX (aD (d:=.s (.bool _)) rfl ?_);simp[oK,C,vH hx]
 .have C:dz n 0 (f.aU.length - 1)=false:=aff.2 oG;rw[C] at la;refine ws (af ?_);refine ab (eJ (ij [(10,11),(10,12),(10,13),(10,15),(10,16)]) ?_);refine cF ?_;(iterate 10 refine z λ_ _=>?_);refine af ?_;refine bU bX (aD (d:=.s (.bool _)) rfl ?_);simp[oK,C]
end
section
variable{p q:D}{f:aO}(hp:Tr p)(hq:Tr q)(ie:p.one=true)(gh:q.one=true)
include hp hq ie gh
def HW{r want kd:Int}:aE prog 271 [.agg (bR p q f),I r,I want,U8 kd] (B (oz f.ag r want kd)):=by
 have J:∀ a∈[D.agg (bR p q f),I r,I want,U8 kd],Tr a:=.cons (po hp hq f) (.cons (.s _) (.cons (.s _) fl));have gP:=gP (f:=f) (r:=r) hp hq ie gh;refine bN (fo f271) J (Tr.s _) ?_;refine ws (af ?_);refine er (ax (dL (vs:=bR _ _ _) rfl rfl V.h V.h rfl) ak (dN V.h V.h da) (az ?_));refine ab (aM (aj (SS ?_)));refine ab (pQ (aj (af ?_)));refine ab (au rfl (λh0=>?_) λh0=>?_)
 .have h0:want=0:=tn h0
  refine ws (az ?_);refine ab (bD (cu (bc (aD (d:=.s (.bool _)) rfl ?_))));simp[oz,h0]
 have h0:¬ want=0:=tn h0
 refine ws (af ?_);refine ab (au rfl (λh1=>?_) λh1=>?_)
 .have h1:want=1:=tn h1
  refine ws (az ?_);refine ab (bD (cu (bc (aD (d:=.s (.bool _)) rfl ?_))));simp[oz,h1]
 have h1:¬ want=1:=tn h1
 refine ws (af ?_);refine ab (au rfl (λh2=>?_) λh2=>?_)
 .have h2:want=2:=tn h2
  refine ws (az ?_);refine ab (bD (cu (bc (aD (d:=.s (.bool _)) rfl ?_))));simp[oz,h2]
 have h2:¬ want=2:=tn h2
 refine ws (af ?_);refine ab (au rfl (λC=>?_) λC=>?_)
 .have C:want=3:=tn C
  refine ws (eD ?_);refine ab (bD (cu (bc (aD (d:=.s (.bool _)) rfl ?_))));simp[oz,C,fB,ib]
 have C:¬ want=3:=tn C
 refine pw (aj (cF ?_));refine ab (aD (d:=.s (.bool _)) rfl ?_);simp[oz,h0,h1,h2,C,ib,bne]
def ET{x:Ins}{s:Shape}:aE prog 211 [.agg (bR p q f),.agg (aI x),.agg (iW s)] (B (p6 f.ag x s)):=by
 have O:∀ a∈[D.agg (bR p q f),.agg (aI x),.agg (iW s)],Tr a:=.cons (po hp hq f) (.cons (.agg (jP x)) (.cons (.agg (UZ s)) .nil));have gP:=λr=>gP (f:=f) (r:=r) hp hq ie gh;have HW:= @HW p q f hp hq ie gh;have j9:=j9 (f:=f) hp hq ie gh (l:=x.args);have J:=la (n:=x.n) (a:=s.low) (b:=s.high);refine bN (fo f211) O (Tr.s _) ?_;refine aF (af ?_);refine cY (uf (cs:=iW _) rfl) ak (by first|rfl|exact xE ie gh|exact rE _|exact ym di) (SS ?_);refine ab (bF (cE [(0,bR p q f,93),(1,aI x,45),(2,iW s,235)] eH (l:=[(3,.pt (bR p q f)),(4,.pt (aI x)),(5,.pt (iW s))]) eH) (aj ?_));have C:=gP;have gP:=gP x.to;refine bG ?_;refine ab (cI (λs'=>aL prog s' ⟨ay [(3,.pt (bR p q f)),(4,.pt (aI x)),(5,.pt (iW s)),(7,U8 (ta f.ag x s))],λ_=>none,3⟩) (aj ?_) λs' hg=>⟨_,hg,?_⟩)
 .refine cF ?_;refine ab (au rfl (λh=>eI ?_) λh=>bd ?_)
  .have h:s.to=0\/s.to=1:=by simpa[ib] using h
   have gP:=C x.a;refine bG ?_;apply ab;show aL _ _ _;refine ao (l:=[(3,_),(4,_),(5,_),(7,_)]) ⟨rfl,rfl,rfl,?_,aa⟩;simp[ta,bi h];rfl
  .have h:¬ (s.to=0\/s.to=1):=by simpa[ib] using h
   show aL _ _ _;refine ao (l:=[(3,_),(4,_),(5,_),(7,_)]) ⟨rfl,rfl,rfl,?_,aa⟩;simp[ta,ai h];rfl
 refine ws (bG ?_);refine ab (cI (λs'=>aL prog s' ⟨ay [(3,.pt (bR p q f)),(4,.pt (aI x)),(5,.pt (iW s)),(7,U8 (ta f.ag x s)),(8,B (rY f.ag x s))],λ_=>none,3⟩) (aj ?_) λs' hg=>⟨_,hg,?_⟩)
 .refine af ?_;refine ab (qQ (aj (af ?_)));refine ab (au rfl (λh=>lS ?_) λh=>aj ?_)
  .have h:s.args=5:=tn h
   have la:=la (n:=x.args.length) (a:=1) (b:=6);refine bg ?_;refine af ?_;refine ab (ao ⟨rfl,rfl,rfl,rfl,?_,aa⟩);show D.s (.bool _)=_;simp[rY,h]
  .have U:¬ s.args=5:=tn h
   refine af ?_;refine ab (au rfl (λh=>lS ?_) λh=>zy ?_)
   .have h:s.args=6:=tn h
    refine bg ?_;refine af ?_;refine ab (ao ⟨rfl,rfl,rfl,rfl,?_,aa⟩);show D.s (.bool _)=_;simp[rY,h,ib]
   .have X:¬ s.args=6:=tn h
    refine ao ⟨rfl,rfl,rfl,rfl,?_,aa⟩;show D.s (.bool _)=_;simp[rY,U,X,ib]
 refine ws (bG ?_);refine cl HW ?_;refine eD ?_;refine gc HW ?_;refine cF ?_;refine gc HW ?_;refine bg ?_;refine af ?_;refine gc la ?_;refine af ?_;refine ab (aD (d:=.s (.bool _)) rfl ?_);simp[p6,Bool.and_assoc]
end
def RN{x:Ins}:aE prog 275 [.agg (aI x)] (B (G6 x)):=by
 have C:∀ a∈[D.agg (aI x)],Tr a:=.cons (.agg (jP x)) .nil;refine bN (fo f275) C (Tr.s _) ?_;refine ws (af ?_);refine er (bg ?_);refine bg ?_;refine bg ?_;refine az ?_;refine ab (aD (d:=.s (.bool _)) rfl ?_);simp[G6,ib];cases decide (x.op=0)<;>cases decide (x.to=0)<;>cases decide (x.a=0)<;>cases decide (x.b=0)<;>cases decide (x.n=0)<;>rfl
def RO{x:Abs.End}:aE prog 214 [.agg (aR x)] (B (BX x)):=by
 have C:∀ a∈[D.agg (aR x)],Tr a:=.cons (.agg (ot x)) .nil;have RN:=RN (x:=x.ins);refine bN (fo f214) C (Tr.s _) ?_;refine ws (af ?_);refine er (bg ?_);refine bg ?_;refine bg ?_;refine bg ?_;refine bg ?_;refine af ?_;refine apE ?_;refine az ?_;refine ab (aD (d:=.s (.bool _)) rfl ?_);have:decide (x.name.toList=[])=x.name.toList.isEmpty:=by cases x.name.toList<;>rfl
 simp[BX,ib,Bool.and_assoc,this]
def apF{w v:iO}:aE prog 273 [.agg (cK v),.pt (cK w)] (B (v.name.toList==w.name.toList)):=by
 have C:∀ a∈[D.agg (cK v),.pt (cK w)],Tr a:=.cons (.agg (Gv v)) (.cons (.pt (Gv w)) .nil);refine bN (fo f273) C (Tr.s _) ?_;refine ws (cY (uf (cs:=cK _) rfl) ak (by first|rfl|exact xE ie gh|exact rE _|exact ym di) (SS ?_));refine er (aX ?_);refine aaA ?_;refine SS ?_;exact ab (aD rfl rfl)
section
variable{p q:D}{f:aO}(hp:Tr p)(hq:Tr q)(ie:p.one=true)(gh:q.one=true)
include hp hq ie gh
def wH{x:Abs.End}:aE prog 212 [.agg (bR p q f),.agg (aR x)] (B (pk f x)):=by
 have J:∀ a∈[D.agg (bR p q f),.agg (aR x)],Tr a:=.cons (po hp hq f) (.cons (.agg (ot x)) .nil);refine qP (fo f212).he J λX=>?_;have hlen:x.aA.length<=maxLen:=((X _ (mem_cons_of_mem _ (mem_cons_self ..))).agg (lg x.aA) (by simp[aR])).sl.1;unfold maxLen at hlen;have l9:= @l9 p q f hp hq ie gh;refine bN (fo f212) J (Tr.s _) ?_;refine aF (az ?_);refine ab (bF (cE [(0,bR p q f,93),(1,aR x,48)] eH (l:=[(2,.pt (bR p q f)),(3,.pt (aR x))]) eH) (aM (aF ?_)));refine aX ?_
 refine ab (cJ (λs=>∃ n,aL prog s ⟨ay [(2,.pt (bR p q f)),(3,.pt (aR x))],λ_=>none,n⟩/\∀ (j:Nat) y,x.aA[j]? =some y->ry f x.aA j y=true) (gl (α:=Nat) (λk=>⟨ay [(2,.pt (bR p q f)),(3,.pt (aR x)),(8,lg x.aA),(9,I x.aA.length),(10,I k)],λ_=>none,2+k⟩)
  (λk=>k<=x.aA.length/\∀ j y,j<k->x.aA[j]? =some y->ry f x.aA j y=true) (λk=>x.aA.length - k) 0 (ao eH) ⟨oG,λj y hj=>by omega⟩ ?_) ?_)
 .rintro k ⟨hk,hinv⟩;refine SS ?_;refine ab ⟨_,rfl,λh=>?_,λh=>?_⟩
  .have al:k<x.aA.length:=tn h
   have hx:x.aA[k]? =some x.aA[k]:=by simp[al]
   generalize x.aA[k]=w at hx;refine aF (bG ?_);refine bT (eK (cs':=cK _) rfl rfl s3 rfl) ak (bW V.h V.h bk (by rfl)) (ab (bF (cE [(2+k,cK w,82)] ⟨ap _ _ _,aa⟩ (l:=[(2,.pt (bR p q f)),(3,.pt (aR x)),(5,I k),(6,.pt (cK w)),(8,lg x.aA),(9,I x.aA.length),(10,I k)]) ⟨rfl,rfl,rfl,mC (sz:=prog.cellsOf 82),rfl,rfl,rfl,aa⟩) (aj ?_)));have HT:=HT (s:=w.name);have HH:=HH (l:=x.aA.take k) (g:=273) (fs:=[]) (cs:=[.pt (cK w)]) (p:=λv=>v.name.toList==w.name.toList) (.fn oS (.cons (.pt (Gv w)) .nil)) (λv _=>apF);unfold lg at HH;rw[<- aiv Gg hk] at HH;refine af ?_;refine cl HT ?_;refine bG ?_;refine gc l9 ?_;refine cB ?_;refine cq rfl rfl (DK rfl V.h V.h rfl rfl rfl) (λhc=>⟨ak,⟨V.h,oG,oG,oG⟩⟩) (cq rfl rfl (Xq rfl rfl) (λhc=>⟨ak,aa⟩) (gc HH ?_));refine SS ?_;have hb:((isName w.name&&(cS f w.to&& !(x.aA.take k).any λv=>v.name.toList==w.name.toList)))=ry f x.aA k w:=rfl;refine ab (au rfl (λhp=>?_) λhp=>?_)
   .refine ws (SS ?_);refine ab (bD (dd (bc (aD (d:=.s (.bool _)) rfl ?_))))
    have C:ry f x.aA k w=false:=by
     rw[<- hb];simp only[cS];revert hp;generalize isName w.name=a;generalize dz w.to 0 (f.blocks.length - 1)=b;generalize (any _ _)=c;cases a<;>cases b<;>cases c<;>simp
    simp[pk,MS hx C]
   .apply eQ
    have C:ry f x.aA k w=true:=by
     rw[<- hb];simp only[cS];revert hp;generalize isName w.name=a;generalize dz w.to 0 (f.blocks.length - 1)=b;generalize (any _ _)=c;cases a<;>cases b<;>cases c<;>simp
    refine af ?_;refine ab (bA (k+1) (ao eH) ⟨oG,λj y hj hy=>?_⟩ oG);by_cases e:j=k
    .subst e;rw[hx] at hy;cases hy;exact C
    .exact hinv j y oG hy
  .have bJ:¬ k<x.aA.length:=tn h
   exact⟨2+k,.forget _ _ _ _ λt=>td (l:=[(2,.pt (bR p q f)),(3,.pt (aR x))]) ⟨rfl,rfl,aa⟩ t,λj y hy=>hinv j y (by have:=(bO.1 hy).1;omega) hy⟩
 .rintro s ⟨n,hg,U⟩;refine⟨_,hg,aj ?_⟩;refine az ?_;refine ax (KW rfl rfl) ak rfl (cF ?_);refine gc l9 ?_;refine az ?_;refine ab (aD (d:=.s (.bool _)) rfl ?_);have O:=TT U;simp[pk,cS,O,ib]
end
abbrev P0:D:=.im (pG gW)
abbrev Q0:D:=.im (pG fX)
def aah:aE prog 180 [] (.bu [P0,Q0]):=by
 refine bN (fo f180) Tr.nil (.bu (.cons (Ex _) (.cons (Ex _) .nil))) ?_;refine ws (ax (fQ (v:=.s (.map none)) rfl) ak aa (ax (fQ (v:=.s (.map none)) rfl) ak aa (er (bg ?_))));refine bg ?_;refine bg ?_;refine cB ?_;refine er (bg ?_);refine bg ?_;refine az ?_;refine ab (aF (aX ?_));refine ab (bF (ag2 [(0,pG gW),(1,pG fX)] eH (l:=[(0,P0),(1,Q0)]) eH) ?_);exact Xu rfl rfl rfl
abbrev uq(f:aO):D:=.agg (bR P0 Q0 f)
def RM{f:aO}:aE prog 136 [.agg (aG f)] (uq f):=by
 have C:∀ a∈[D.agg (aG f)],Tr a:=.cons (.agg (jG f)) .nil;refine bN (fo f136) C (po (Ex _) (Ex _) f) ?_;refine ws (af ?_);refine er (cl aah ?_);refine bG ?_;refine er (ax (dL (vs:=aG _) rfl rfl V.h V.h rfl) ak (dN V.h V.h da) (az ?_));refine bT (eK (cs':=bR _ _ _) rfl rfl rfl rfl) ak (bW V.h V.h bk (by rfl)) (ab (jR (fT rfl rfl a93 c93 rfl t93 oS) ?_));rfl
def oL:Tr P0:=Ex _
def oO:Tr Q0:=Ex _
section
variable{p q:D}{f:aO}(hp:Tr p)(hq:Tr q)(ie:p.one=true)(gh:q.one=true)
include hp hq ie gh
def apI{r kd:Int}:aE prog 216 [I r,.pt (bR p q f),.pt [U8 kd]] (B !(aZ (cV f.ag r) kd)):=by
 have C:∀ a∈[I r,.pt (bR p q f),.pt [U8 kd]],Tr a:=.cons (.s _) (.cons (.pt (Gx hp hq f)) (.cons (.pt fl) .nil));have gP:=gP (f:=f) (r:=r) hp hq ie gh;refine bN (fo f216) C (Tr.s _) ?_;refine ws (SS ?_);refine ab (eJ (ij [(2,3)]) ?_);refine cB ?_;refine bU bX (aD (d:=.s (.bool _)) rfl ?_);rfl
end
def LP{f:aO}{b ahead:Int}{x:Ins}{phis:Bool}:aE prog 143 [uq f,I b,.agg (aI x),B phis,I ahead] (B (ky f b x phis ahead)):=by
 have O:∀ a∈[uq f,I b,.agg (aI x),B phis,I ahead],Tr a:=.cons (po oL oO f) (.cons (.s _) (.cons (.agg (jP x)) (.cons (.s _) fl)));have gP:= @gP P0 Q0 f oL oO rfl rfl;have LS:= @LS P0 Q0 f oL oO rfl rfl;have j9:= @j9 P0 Q0 f oL oO rfl rfl;have ET:= @ET P0 Q0 f oL oO rfl rfl;refine bN (fo f143) O (Tr.s _) ?_;refine aF (az ?_);refine ab (bF (cE [(0,bR P0 Q0 f,93),(1,aI x,45)] eH (l:=[(1,I b),(3,B phis),(4,I ahead),(5,.pt (bR P0 Q0 f)),(7,.pt (aI x))]) eH) (aM (aj ?_)));refine af ?_;refine ab (pQ (aj (af ?_)));refine ab (au rfl (λh0=>?_) λh0=>?_)
 .have h0:x.op=16:=by simpa using h0
  refine ws (eD ?_);refine gc gP ?_;refine bg ?_;refine cF ?_;refine af ?_;refine ab (bD (cu (bc (aD (d:=.s (.bool _)) rfl ?_))));simp[ky,h0,aZ,kJ,ib,Bool.and_assoc]
 have h0:¬ x.op=16:=by simpa using h0
 refine ws (af ?_);refine ab (au rfl (λh1=>?_) λh1=>?_)
 .have h1:x.op=17:=by simpa using h1
  refine ws (bg ?_);refine bg ?_;refine af ?_;refine gc LS ?_;refine af ?_;refine ab (bD (cu (bc (aD (d:=.s (.bool _)) rfl ?_))));simp[ky,h1,aZ,kJ,ib,Bool.and_assoc]
 have h1:¬ x.op=17:=by simpa using h1
 refine ws (af ?_);refine ab (au rfl (λh2=>?_) λh2=>?_)
 .have h2:x.op=18:=by simpa using h2
  refine ws (bg ?_);refine bg ?_;refine af ?_;refine gc LS ?_;refine af ?_;refine ab (bD (cu (bc (aD (d:=.s (.bool _)) rfl ?_))));simp[ky,h2,aZ,kJ,ib,Bool.and_assoc]
 have h2:¬ x.op=18:=by simpa using h2
 refine ws (af ?_);refine ab (au rfl (λC=>?_) λC=>?_)
 .have C:x.op=19:=by simpa using C
  refine aF (az ?_);refine cl gP ?_;refine SS ?_;refine bT (dM (d:=.s (.int _ _)) (cs':=[_]) rfl rfl rfl rfl rfl) ak (bW V.h V.h bk rfl) (ab (bF (cE [(2,[U8 (cV f.ag x.to)],5)] eH (l:=[(1,I b),(3,B phis),(4,I ahead),(5,.pt (bR P0 Q0 f)),(7,.pt (aI x)),(11,.pt [U8 (cV f.ag x.to)])]) eH) (aj ?_)));have Fy:=Fy (l:=x.args) (g:=216) (fs:=[]) (cs:=[.pt (bR P0 Q0 f),.pt [U8 (cV f.ag x.to)]]) (p:=λr=> !(aZ (cV f.ag r) (cV f.ag x.to))) (.fn oS (.cons (.pt (Gx oL oO f)) (.cons (.pt fl) .nil))) (λr _=>apI oL oO rfl rfl);refine az ?_;refine cl Fy ?_;refine SS ?_;apply er;by_cases hb:phis=true/\0<b
  .obtain⟨rfl,hb⟩:=hb;have yE:decide (0<b)=true:=by simpa using hb
   have j9:=j9 (l:=[x.to]);have J:∀ {m:Mem},m 3=some (.cells [I x.to] 3)->qv prog [3] m [uq f,.rs 3 0 1] [uq f,av [x.to]]:=λhm=>⟨dT (po oL oO f),Qn hm oS (by rw[c3];rfl) fl,aa⟩
   refine cF ?_;refine af ?_;refine KH j9 rfl rfl rfl rfl (J rfl) ak (bg ?_);refine bg ?_;refine cF ?_;refine af ?_;refine ab (bD (cu (bc (aD (d:=.s (.bool _)) rfl ?_))));simp[ky,C,hb,aZ,kJ,ib,Bool.and_assoc,iX]
  .have hf:ky f b x phis ahead=false:=by
    cases phis with
    |false=>simp[ky,C]
    |true=>simp[ky,C,show ¬ 0<b by simpa using hb]
   have hf:D.s (.bool false)=B (ky f b x phis ahead):=by rw[hf]
   cases phis with
   |false=>
    refine af ?_;(iterate 2 refine z λ_ _=>?_);refine af ?_;(iterate 5 refine z λ_ _=>?_);refine af ?_;(iterate 3 refine z λ_ _=>?_);refine af ?_;(iterate 3 refine z λ_ _=>?_);refine af ?_;(iterate 3 refine z λ_ _=>?_);refine af ?_;(iterate 5 refine z λ_ _=>?_);refine af ?_;(iterate 2 refine z λ_ _=>?_);refine af ?_;exact ab (bD (cu (bc (aD (d:=.s (.bool _)) rfl hf))))
   |true=>
    have yE:decide (0<b)=false:=by simpa using hb
    refine cB ?_;(iterate 5 refine z λ_ _=>?_);refine af ?_;(iterate 3 refine z λ_ _=>?_);refine af ?_;(iterate 3 refine z λ_ _=>?_);refine af ?_;(iterate 3 refine z λ_ _=>?_);refine af ?_;(iterate 5 refine z λ_ _=>?_);refine af ?_;(iterate 2 refine z λ_ _=>?_);refine af ?_;exact ab (bD (cu (bc (aD (d:=.s (.bool _)) rfl hf))))
 have C:¬ x.op=19:=by simpa using C
 refine pw (aj ?_);have kg:jM prog 91 true (gM (.int .u8 x.op) (pG gW))=.bu [.agg (iW ((dO gW x.op).getD nE)),.s (.bool (dO gW x.op).isSome)]:=PG rfl _ _ (by rw[HJ];rw[rh,HK,HL];rfl);have Iw:=JT (P:=prog) (kt:=5) u5 gW;refine bg ?_;refine af ?_;refine er (aX ?_);refine cq rfl rfl (dL (vs:=iW _) rfl rfl V.h V.h rfl) (λhc=>⟨ak,(dN V.h V.h da)⟩) (gc ET ?_);refine af ?_;refine ab (aD (d:=.s (.bool _)) rfl ?_);simp[ky,h0,h1,h2,C]
def ZD(f:aO)(x:Abs.End)(s:St):Prop:=∃ cells n,aL prog s ⟨ay [(2,.pt (bR P0 Q0 f)),(3,.pt (aR x)),(5,.rp 2 0),(6,B (gZ f x).1)],up (λ_=>none) 2 (some (.cells cells 48)),n⟩/\cells.length=15/\∀ m,qv prog [2] m cells (aR (gZ f x).2)
def vR{l:List Int}{r:Int}:iX l [r]=fB l r:=by simp[iX]
def pJ{f:aO}{x r:Abs.End}{env:Env}{m:Mem}{nx:Nat}{cells:List D}{ok:Bool}(hr:gZ f x=(ok,r))(he:p8 [(2,.pt (bR P0 Q0 f)),(3,.pt (aR x)),(5,.rp 2 0),(6,B ok)] env)(hm:m 2=some (.cells cells 48))(hl:cells.length=15)
 (hs:∀ m,qv prog [2] m cells (aR r)):ZD f x ⟨env,m,nx⟩:=by
 refine⟨cells,nx,?_,hl,?_⟩
 .rw[hr];exact VW he (agy hm)
 .rw[hr];exact hs
def LO{f:aO}{x:Abs.End}:aE prog 142 [uq f,.agg (aR x)] (B (jJ f x)):=by
 have bB:∀ a∈[uq f,.agg (aR x)],Tr a:=.cons (po oL oO f) (.cons (.agg (ot x)) .nil);have l9:= @l9 P0 Q0 f oL oO rfl rfl;have gP:= @gP P0 Q0 f oL oO rfl rfl;have j9:= @j9 P0 Q0 f oL oO rfl rfl;have ET:= @ET P0 Q0 f oL oO rfl rfl;have wH:= @wH P0 Q0 f oL oO rfl rfl;refine bN (fo f142) bB (Tr.s _) ?_;refine aF (az ?_);refine ab (bF (cE [(0,bR P0 Q0 f,93),(1,aR x,48)] eH (l:=[(2,.pt (bR P0 Q0 f)),(3,.pt (aR x))]) eH) (aj ?_));refine af ?_;refine bT (eK (cs':=aR _) rfl rfl rfl rfl) ak (bW V.h V.h bk (by rfl)) (SS ?_);refine er (af ?_);refine ab (cI (ZD f x) (aj ?_) λs hs=>?_)
 .refine af ?_;refine ab (qQ (aj (af ?_)));refine ab (au rfl (λh=>?_) λh=>?_)
  .have h:x.kind=1:=by simpa using h
   refine lS (az ?_);refine cl l9 ?_;refine az ?_;exact ab (pJ (r:={ x with kind:=0,to:=0 }) (by simp[gZ,h,aZ,ib,Bool.and_assoc,cS]) ⟨rfl,rfl,rfl,rfl,aa⟩ rfl rfl (λm=>by repeat' (first|exact trivial|exact dT (Tr.s _)|exact dT (cR _)|exact dT (lh _)|exact pK|refine And.intro ?_ ?_)))
  have h1:¬ x.kind=1:=by simpa using h
  clear h;refine ws (af ?_);refine ab (au rfl (λh=>?_) λh=>?_)
  .have h:x.kind=2:=by simpa using h
   refine lS (az ?_);refine cl gP ?_;refine bG ?_;refine gc l9 ?_;refine bG ?_;refine gc l9 ?_;refine cF ?_;exact ab (pJ (r:={ x with kind:=0,a:=0,to:=0,cz:=0 }) (by simp[gZ,h,aZ,ib,Bool.and_assoc,cS]) ⟨rfl,rfl,rfl,rfl,aa⟩ rfl rfl (λm=>by repeat' (first|exact trivial|exact dT (Tr.s _)|exact dT (cR _)|exact dT (lh _)|exact pK|refine And.intro ?_ ?_)))
  have h2:¬ x.kind=2:=by simpa using h
  clear h;refine ws (af ?_);refine ab (au rfl (λh=>?_) λh=>?_)
  .have h:x.kind=3:=by simpa using h
   refine ws (cB ?_);refine er (cF ?_);refine af ?_;refine ab (au rfl (λhr=>?_) λhr=>?_)
   .have hr:f.result≠0/\f.iter=false:=by simpa[bne,ib] using hr
    refine Gt (ij [(3,4),(3,5),(3,6)]) (az ?_);refine cl gP ?_;refine bG ?_;exact bU bX (pJ (r:={ x with kind:=0,a:=0 }) (by simp[gZ,h,aZ,ib,Bool.and_assoc,hr.1,hr.2]) ⟨rfl,rfl,rfl,rfl,aa⟩ rfl rfl (λm=>by repeat' (first|exact trivial|exact dT (Tr.s _)|exact dT (cR _)|exact dT (lh _)|exact pK|refine And.intro ?_ ?_)))
   .have hr:¬ (f.result≠0/\f.iter=false):=by simpa[bne,ib] using hr
    exact zy (pJ (r:={ x with kind:=0,a:=0 }) (by simp only[gZ,h];simp only[ai hr];simp[aZ,ib]) ⟨rfl,rfl,rfl,rfl,aa⟩ rfl rfl (λm=>by repeat' (first|exact trivial|exact dT (Tr.s _)|exact dT (cR _)|exact dT (lh _)|exact pK|refine And.intro ?_ ?_)))
  have h3:¬ x.kind=3:=by simpa using h
  clear h;refine ws (af ?_);refine ab (au rfl (λh=>?_) λh=>?_)
  .have h:x.kind=4:=by simpa using h
   refine lS (af ?_);refine cl HT ?_;refine az ?_;exact ab (pJ (r:={ x with kind:=0,name:=.empty }) (by simp[gZ,h,aZ,ib,Bool.and_assoc]) ⟨rfl,rfl,rfl,rfl,aa⟩ rfl rfl (λm=>by repeat' (first|exact trivial|exact dT (Tr.s _)|exact dT (cR _)|exact dT (lh _)|exact pK|refine And.intro ?_ ?_)))
  have h4:¬ x.kind=4:=by simpa using h
  clear h;refine ws (af ?_);refine ab (au rfl (λh=>?_) λh=>?_)
  .have h:x.kind=5:=by simpa using h
   apply ws;have kg:jM prog 91 true (gM (.int .u8 x.ins.op) (pG fX))=.bu [.agg (iW ((dO fX x.ins.op).getD nE)),.s (.bool (dO fX x.ins.op).isSome)]:=PG rfl _ _ (by rw[HJ];rw[rh,HK,HL];rfl);have Iw:=JT (P:=prog) (kt:=5) u5 fX;refine bg ?_;refine az ?_;refine er (bG ?_);refine cq rfl rfl (dL (vs:=iW _) rfl rfl V.h V.h rfl) (λhc=>⟨ak,(dN V.h V.h da)⟩) (gc ET ?_);refine bG ?_;refine gc l9 ?_;refine aX ?_;refine gc wH ?_;refine af ?_;refine ab (lS (bg ?_));exact ab (pJ (r:={ x with kind:=0,ins:=fM,to:=0,aA:=[],others:= -1 }) (by simp[gZ,h,aZ,ib,Bool.and_assoc,cS]) ⟨rfl,rfl,rfl,rfl,aa⟩ rfl rfl (λm=>by repeat' (first|exact trivial|exact dT (Tr.s _)|exact dT (cR _)|exact dT (lh _)|exact pK|refine And.intro ?_ ?_)))
  have h5:¬ x.kind=5:=by simpa using h
  clear h;refine ws (af ?_);refine ab (au rfl (λh=>?_) λh=>?_)
  .have h:x.kind=6:=by simpa using h
   apply ws;have uH:=uH (s:=x.name);have ani:=j9 (l:=[x.a]);have j9:=j9 (l:=x.args);have X:∀ {m:Mem},m 3=some (.cells [I x.a] 3)->qv prog [3] m [uq f,.rs 3 0 1] [uq f,av [x.a]]:=λhm=>⟨dT (po oL oO f),Qn hm oS (by rw[c3];rfl) fl,aa⟩
   cases C:nM x.name with
   |false=>
    rw[C] at uH;refine af ?_;refine cl uH ?_;refine cF ?_;refine af ?_;refine gc j9 ?_;refine bg ?_;(iterate 3 refine z λ_ _=>?_);refine bG ?_;refine gc l9 ?_;refine aX ?_;refine gc wH ?_;refine af ?_;refine ab (lS (bg ?_));refine az ?_;exact ab (pJ (r:={ x with kind:=0,name:=.empty,args:=[],a:=0,to:=0,aA:=[],others:= -1 }) (by simp[gZ,h,aZ,ib,Bool.and_assoc,cS,C]) ⟨rfl,rfl,rfl,rfl,aa⟩ rfl rfl (λm=>by repeat' (first|exact trivial|exact dT (Tr.s _)|exact dT (cR _)|exact dT (lh _)|exact pK|refine And.intro ?_ ?_)))
   |true=>
    rw[C] at uH;by_cases J:(x.args.length:Int)<=6
    rotate_left
    .have aae:decide ((x.args.length:Int)<=6)=false:=by simpa using J
     refine af ?_;refine cl uH ?_;refine cF ?_;refine af ?_;refine gc j9 ?_;refine bg ?_;(iterate 3 refine z λ_ _=>?_);refine bG ?_;refine gc l9 ?_;refine aX ?_;refine gc wH ?_;refine af ?_;refine ab (lS (bg ?_));refine az ?_;exact ab (pJ (r:={ x with kind:=0,name:=.empty,args:=[],a:=0,to:=0,aA:=[],others:= -1 }) (by simp[gZ,h,aZ,ib,Bool.and_assoc,cS,C,J]) ⟨rfl,rfl,rfl,rfl,aa⟩ rfl rfl (λm=>by repeat' (first|exact trivial|exact dT (Tr.s _)|exact dT (cR _)|exact dT (lh _)|exact pK|refine And.intro ?_ ?_)))
    have aae:decide ((x.args.length:Int)<=6)=true:=by simpa using J
    cases O:iX f.ag x.args with
    |false=>
     rw[O] at j9;refine af ?_;refine cl uH ?_;refine cF ?_;refine af ?_;refine gc j9 ?_;refine bg ?_;(iterate 3 refine z λ_ _=>?_);refine bG ?_;refine gc l9 ?_;refine aX ?_;refine gc wH ?_;refine af ?_;refine ab (lS (bg ?_));refine az ?_;exact ab (pJ (r:={ x with kind:=0,name:=.empty,args:=[],a:=0,to:=0,aA:=[],others:= -1 }) (by simp[gZ,h,aZ,ib,Bool.and_assoc,cS,C,J,O]) ⟨rfl,rfl,rfl,rfl,aa⟩ rfl rfl (λm=>by repeat' (first|exact trivial|exact dT (Tr.s _)|exact dT (cR _)|exact dT (lh _)|exact pK|refine And.intro ?_ ?_)))
    |true=>
     rw[O] at j9;by_cases U:x.a= -1
     .have kQ:(x.a== -1)=true:=by simpa using U
      refine af ?_;refine cl uH ?_;refine cF ?_;refine af ?_;refine gc j9 ?_;refine bg ?_;(iterate 2 refine z λ_ _=>?_);refine cB ?_;refine gc l9 ?_;refine aX ?_;refine gc wH ?_;refine af ?_;refine ab (lS (bg ?_));refine az ?_;exact ab (pJ (r:={ x with kind:=0,name:=.empty,args:=[],a:=0,to:=0,aA:=[],others:= -1 }) (by simp[gZ,h,aZ,ib,Bool.and_assoc,cS,C,J,O,U]) ⟨rfl,rfl,rfl,rfl,aa⟩ rfl rfl (λm=>by repeat' (first|exact trivial|exact dT (Tr.s _)|exact dT (cR _)|exact dT (lh _)|exact pK|refine And.intro ?_ ?_)))
     .have kQ:(x.a== -1)=false:=by simpa using U
      refine af ?_;refine cl uH ?_;refine cF ?_;refine af ?_;refine gc j9 ?_;refine cF ?_;refine af ?_;refine KH ani rfl rfl rfl rfl (X rfl) ak (cB ?_);refine gc l9 ?_;refine aX ?_;refine gc wH ?_;refine af ?_;refine ab (lS (bg ?_));refine az ?_;exact ab (pJ (r:={ x with kind:=0,name:=.empty,args:=[],a:=0,to:=0,aA:=[],others:= -1 }) (by simp[gZ,h,aZ,ib,Bool.and_assoc,cS,C,J,O,U,vR]) ⟨rfl,rfl,rfl,rfl,aa⟩ rfl rfl (λm=>by repeat' (first|exact trivial|exact dT (Tr.s _)|exact dT (cR _)|exact dT (lh _)|exact pK|refine And.intro ?_ ?_)))
  have h6:¬ x.kind=6:=by simpa using h
  clear h;refine ws (af ?_);refine ab (au rfl (λh=>?_) λh=>?_)
  .have h:x.kind=7:=by simpa using h
   refine ws (af ?_);refine cl uH ?_;refine cF ?_;refine af ?_;refine gc j9 ?_;refine bG ?_;refine gc gP ?_;refine cB ?_;refine gc l9 ?_;refine af ?_;refine ab (lS (cF ?_));exact ab (pJ (r:={ x with kind:=0,name:=.empty,args:=[],a:=0,to:=0 }) (by simp[gZ,h,aZ,ib,Bool.and_assoc,cS]) ⟨rfl,rfl,rfl,rfl,aa⟩ rfl rfl (λm=>by repeat' (first|exact trivial|exact dT (Tr.s _)|exact dT (cR _)|exact dT (lh _)|exact pK|refine And.intro ?_ ?_)))
  have h7:¬ x.kind=7:=by simpa using h
  clear h;refine ws (af ?_);refine ab (au rfl (λh=>?_) λh=>?_)
  .have h:x.kind=8:=by simpa using h
   apply ws;have j9:=j9 (l:=[x.b]);have Qv:∀ {m:Mem},m 3=some (.cells [I x.b] 3)->qv prog [3] m [uq f,.rs 3 0 1] [uq f,av [x.b]]:=λhm=>⟨dT (po oL oO f),Qn hm oS (by rw[c3];rfl) fl,aa⟩
   by_cases C:cV f.ag x.a=3
   .have kQ:(cV f.ag x.a==3)=true:=by simpa using C
    refine az ?_;refine cl gP ?_;refine cB ?_;refine KH j9 rfl rfl rfl rfl (Qv rfl) ak (bG ?_);refine gc l9 ?_;refine bG ?_;refine gc l9 ?_;refine aX ?_;refine gc wH ?_;refine af ?_;refine ab (lS (bg ?_));refine az ?_;exact ab (pJ (r:={ x with kind:=0,a:=0,b:=0,to:=0,cz:=0,aA:=[],others:= -1 }) (by simp[gZ,h,aZ,ib,Bool.and_assoc,cS,C,vR]) ⟨rfl,rfl,rfl,rfl,aa⟩ rfl rfl (λm=>by repeat' (first|exact trivial|exact dT (Tr.s _)|exact dT (cR _)|exact dT (lh _)|exact pK|refine And.intro ?_ ?_)))
   .have kQ:(cV f.ag x.a==3)=false:=by simpa using C
    refine az ?_;refine cl gP ?_;refine bG ?_;(iterate 2 refine z λ_ _=>?_);refine bG ?_;refine gc l9 ?_;refine bG ?_;refine gc l9 ?_;refine aX ?_;refine gc wH ?_;refine af ?_;refine ab (lS (bg ?_));refine az ?_;exact ab (pJ (r:={ x with kind:=0,a:=0,b:=0,to:=0,cz:=0,aA:=[],others:= -1 }) (by simp[gZ,h,aZ,ib,Bool.and_assoc,cS,C]) ⟨rfl,rfl,rfl,rfl,aa⟩ rfl rfl (λm=>by repeat' (first|exact trivial|exact dT (Tr.s _)|exact dT (cR _)|exact dT (lh _)|exact pK|refine And.intro ?_ ?_)))
  have h8:¬ x.kind=8:=by simpa using h
  clear h;refine ws (af ?_);refine ab (au rfl (λh=>?_) λh=>?_)
  .have h:x.kind=9:=by simpa using h
   refine Gt (ij [(7,8),(7,9),(7,10)]) (eD ?_);refine gc gP ?_;refine bg ?_;refine gc l9 ?_;refine cB ?_;exact bU bX (pJ (r:={ x with kind:=0,a:=0,to:=0 }) (by simp[gZ,h,aZ,ib,Bool.and_assoc,cS]) ⟨rfl,rfl,rfl,rfl,aa⟩ rfl rfl (λm=>by repeat' (first|exact trivial|exact dT (Tr.s _)|exact dT (cR _)|exact dT (lh _)|exact pK|refine And.intro ?_ ?_)))
  .have h9:¬ x.kind=9:=by simpa using h
   exact zy (pJ (r:={ x with kind:=0 }) (by simp[gZ,h1,h2,h3,h4,h5,h6,h7,h8,h9]) ⟨rfl,rfl,rfl,rfl,aa⟩ rfl rfl (λm=>by repeat' (first|exact trivial|exact dT (Tr.s _)|exact dT (cR _)|exact dT (lh _)|exact pK|refine And.intro ?_ ?_)))
 .let⟨cells,n,hg,hl,hs⟩:=hs;refine⟨_,hg,aj ?_⟩;have vg:(cells.drop 0).take 15=cells:=by rw[drop_zero,cW oG]
  have RO:=RO (x:=(gZ f x).2);have anj:∀ {m:Mem},m 2=m 2->qv prog [2] m [.agg ((cells.drop 0).take 15)] [.agg (aR (gZ f x).2)]:=λ{m} _=>⟨ajv (by rw[vg];exact hs m),aa⟩
  have he:jJ f x=((gZ f x).1&&BX (gZ f x).2):=rfl;generalize (gZ f x).1=ok at he;cases ok with
  |true=>
   refine az ?_;refine KH RO rfl rfl rfl rfl (anj rfl) ak (af ?_);refine ab (aD (d:=.s (.bool _)) rfl ?_);rw[he];simp
  |false=>
   refine af ?_;(iterate 2 refine z λ_ _=>?_);refine af ?_;refine ab (aD (d:=.s (.bool _)) rfl ?_);rw[he];simp
abbrev aaf:=LB prog ids
def SA:Ctx:={ jk:=aaf }
def qX:ss prog SA:=⟨mixed,(WL XY:K6 prog aaf),λ_ _ _ h=>oH,λ_ _ _ _ _ _ _ h=>oH⟩
def yH{n:Int}(hn: -1000000<=n/\n<=1000000):aE prog 220 [I n] (I (mO n)):=by
 refine bN (fo f220) (by simp[Tr.s]) (Tr.s _) ?_;refine ws (SS ?_);refine er (az ?_);exact ab (aD rfl rfl)
def Gu{off:Nat}{vs cs:List D}(hv:vs.length=20)(hl:off+20<=cs.length)(ho:vs.all D.one=true):aT prog 201=true/\vs.length=prog.cellsOf 201/\off+prog.cellsOf 201<=cs.length/\vs.all D.one=true:=by
 rw[uD];exact⟨t201,hv,hl,ho⟩
def nU{w:List Int}{m:Nat}(U:w.length=20)(hm:m<1280):aE prog 147 [jf w,I m] (B (mH w m)):=by
 have O:∀ a∈[jf w,I m],Tr a:=.cons (tD _) fl;have hi:w[m / 64]? =some w[m / 64]:=aV oG;have hg:w.getD (m / 64) 0=w[m / 64]:=by simp[dF,hi]
 have C:=Zc (m:=m) oG;have J:=Zd m;have kd:=nv (f:=dH) hi;refine bN (fo f147) O (Tr.s _) ?_;refine ws (af ?_);refine er (SS ?_);refine ax (XZ rfl rfl C) ak ⟨rfl,oG⟩ (az ?_);refine ax (X0 rfl rfl J) ak ⟨rfl,oG⟩ (ax (ajS rfl rfl) ak oG (ax (Yv rfl rfl) ak rfl (af ?_)));refine ab (aD (d:=.s (.bool _)) rfl ?_);rw[mH,hg];rfl
def tE{w:List Int}{n:Int}(X:w.length=20)(hn: -1000000<=n/\n<1280):aE prog 218 [jf w,I n] (jf (iq w n)):=by
 have U:∀ a∈[jf w,I n],Tr a:=.cons (tD _) fl;refine bN (fo f218) U (tD _) ?_;refine ws (af ?_);refine ab (aM (aj ?_));by_cases h0:0<=n
 .obtain⟨m,rfl⟩:=fc h0;have hm:m<1280:=by omega
  have hi:w[m / 64]? =some w[m / 64]:=aV oG;have hg:w.getD (m / 64) 0=w[m / 64]:=by simp[dF,hi]
  have J:=Zc (m:=m) oG;have O:=Zd m;have kd:=nv (f:=dH) hi;have C:decide (0<=(m:Int))=true:=by simp
  refine SS ?_;refine ax (X2 rfl rfl C) ak rfl (ab (BU (eJ iB ?_)));refine SS ?_;refine ax (XZ rfl rfl J) ak ⟨rfl,oG⟩ (az ?_);refine ax (X0 rfl rfl O) ak ⟨rfl,oG⟩ (ax (ajR rfl rfl) ak oG (ax (anE rfl rfl) ak rfl (af ?_)));refine bU bX (aj ?_);refine af ?_;refine ab (jR (fT rfl rfl a201 uD (qd (by first|rfl|simp;omega)) t201 oP) ?_);simp only[iq,h0,if_true,eC,yp,hg,jf,map_set];rfl
 .have C:decide (0<=n)=false:=tn h0
  refine SS ?_;refine ax (X2 rfl rfl C) ak rfl (ab (BT (dn (aj ?_))));refine af ?_;refine ab (jR (fT rfl rfl a201 uD (qd oP) t201 oP) ?_);simp[iq,h0,if_false]
def LD{w v:List Int}(O:w.length=20)(hv:v.length=20):aE prog 219 [jf w,jf v] (jf (jL w v)):=by
 have X:∀ a∈[jf w,jf v],Tr a:=.cons (tD _) (.cons (tD _) .nil);refine bN (fo f219) X (tD _) ?_;refine ws (az ?_);refine ab (aM (aF (SS ?_)))
 refine ab (cJ (λs=>aL prog s ⟨ay [(2,.rp 0 0),(3,.rp 1 0),(4,.rp 2 0)],b8 [(0,.cells ((jL w v).map dH) 201),(1,.cells (v.map dH) 201),(2,.cells (replicate 20 (dH 0)) 201)],3⟩) (gl (α:=Nat)
  (λk=>⟨ay [(2,.rp 0 0),(3,.rp 1 0),(4,.rp 2 0),(6,I k)],b8 [(0,.cells ((gz w v k).map dH) 201),(1,.cells (v.map dH) 201),(2,.cells (replicate 20 (dH 0)) 201)],3⟩)
  (λk=>k<=20) (λk=>20 - k) 0 (a6 eH eH) oG ?_) ?_)
 .intro k hk;refine SS ?_;refine ab ⟨_,rfl,λh=>?_,λh=>?_⟩
  .have al:k<20:=by have h:(k:Int)<20:=tn h
                    omega
   have E0:(gz w v k).length=20:=by simp[O]
   have hi:(gz w v k)[k]? =some (gz w v k)[k]:=aV oG;have hj:v[k]? =some v[k]:=aV oG;have hg:(gz w v k).getD k 0=(gz w v k)[k]:=by simp[dF,hi]
   have C:v.getD k 0=v[k]:=by simp[dF,hj]
   have kd:=nv (f:=dH) hi;have U:=nv (f:=dH) hj;refine ws (af ?_);refine ab (r8 iB ?_);refine bG ?_;refine ax (fe rfl rfl U V.h) ak (fh V.h V.h U) (ax (Yv rfl rfl) ak rfl (af ?_));refine bU bX (af ?_);refine ab (bA (k+1) (a6 eH ⟨?_,rfl,rfl,aa⟩) oG oG);rw[ap];simp only[gz,hg,C,map_set];rfl
  .have bJ:¬ k<20:=by intro hh;simp at h;omega
   have:k=20:=by omega
   subst this;exact .forget _ _ _ _ λt=>td (l:=[(2,.rp 0 0),(3,.rp 1 0),(4,.rp 2 0)]) ⟨rfl,rfl,rfl,aa⟩ t
 .intro s hg;have J:(jL w v).length=20:=by simp[O]
  generalize jL w v=u at hg J ⊢;refine⟨_,hg,aj ?_⟩;refine af ?_;refine ab (jR (fT rfl rfl a201 uD (qd oP) t201 oP) ?_);rfl
def aag:Int:=18446744073709551615
def Rz:aE prog 217 [] (jf (replicate 20 aag)):=by
 exact pS qX 100 (show yk prog SA (mi prog SA 100) 217 []=some (.inl (jf (replicate 20 aag))) by kernel_rfl) rfl
def HI{w:List Int}{x:Ins}(C:w.length=20)(hn:x.op=18->0<=x.n/\x.n<80)(ht:x.op≠18-> -1000000<=dt x/\dt x<1280):aE prog 221 [jf w,.agg (aI x)] (jf (iq w (if x.op=18 then mO x.n else dt x))):=by
 have J:∀ a∈[jf w,.agg (aI x)],Tr a:=.cons (tD _) (.cons (.agg (jP x)) .nil);refine bN (fo f221) J (tD _) ?_;refine ws (az ?_);refine ab (aM (aj (az ?_)));refine ab (cG rfl (λh=>?_) λh=>dn (eJ (ij [(0,2)]) ?_))
 .have h:x.op=18:=tn h
  have hx:=hn h;have yH:=yH (n:=x.n) oG;have tE:=tE (w:=w) (n:=mO x.n) C (by unfold mO;omega);refine aM (eJ (ij [(0,3)]) ?_);refine cB ?_;refine bU bX (dX (jR (fT rfl rfl a201 uD (qd oP) t201 oP) ?_));simp[h]
 .have h:x.op≠18:=tn h
  have Fz:=Fz (x:=x);have tE:=tE (w:=w) (n:=dt x) C (ht h);refine bG ?_;refine bU bX (jR (fT rfl rfl a201 uD (qd oP) t201 oP) ?_);simp[h]
def jD(x:End):Bool:=decide (0<=x.others)&&aC [5,6,8] x.kind
def dI(x:End):List Int:=if aC [3,4] x.kind then [] else x.to::((if aC [2,8] x.kind then [x.cz] else [])++(x.aA.map (·.to)++(if jD x then [x.others] else [])))
def sX(x:End):Nat:=if aC [2,8] x.kind then 2 else 1
def agG{x:End}(h:aC [3,4] x.kind=false):(dI x)[0]? =some x.to/\(aC [2,8] x.kind=true->(dI x)[1]? =some x.cz)/\(∀ (j:Nat) w,x.aA[j]? =some w->(dI x)[sX x+j]? =some w.to)/\
 (jD x=true->(dI x)[sX x+x.aA.length]? =some x.others)/\(dI x).length=sX x+x.aA.length+(if jD x then 1 else 0):=by
 unfold dI sX;generalize jD x=c;rw[ai (by simp[h])];cases h2:aC [2,8] x.kind with
 |true=>
  refine⟨rfl,λ_=>rfl,λj w hj=>?_,λhc=>?_,?_⟩
  .have:j<x.aA.length:=(bO.1 hj).1;simp[if_true,singleton_append];rw[show 2+j=j+1+1 by omega,getElem?_cons_succ,getElem?_cons_succ,getElem?_append_left (tn this)];simp[hj]
  .simp[if_true,singleton_append];rw[show 2+x.aA.length=x.aA.length+1+1 by omega,getElem?_cons_succ,getElem?_cons_succ,getElem?_append_right oS];rw[bi hc];simp
  .cases c<;>simp<;>omega
 |false=>
  refine⟨rfl,λh=>oH,λj w hj=>?_,λhc=>?_,?_⟩
  .have:j<x.aA.length:=(bO.1 hj).1;simp[Bool.false_eq_true,if_false,nil_append];rw[show 1+j=j+1 by omega,getElem?_cons_succ,getElem?_append_left (tn this)];simp[hj]
  .simp[Bool.false_eq_true,if_false,nil_append];rw[show 1+x.aA.length=x.aA.length+1 by omega,getElem?_cons_succ,getElem?_append_right oS];rw[bi hc];simp
  .cases c<;>simp<;>omega
def lu{P:Program}{Y:iz}{rf:Bool}{Q:Exit->St->Prop}{st:St}[fD Y]{ops:Array Oper}{i:Nat}(h:aJ P Y ops false [] (iN (Q .normal)) ops.toList st []):AW P Y rf (.region i ops false) Q st:=tW (rf:=rf) (id:=i) (aJ.nT h λ_ h=>h)
def za{x:Abs.End}:aE prog 90 [.agg (aR x)] (.fn (.func 171) [] [.pt (aR x)]):=by
 have C:∀ a∈[D.agg (aR x)],Tr a:=.cons (.agg (ot x)) .nil;refine bN (fo f90) C (.fn oS (.cons (.pt (ot x)) .nil)) ?_;refine aF (SS ?_);refine ax (fQ (v:=.s .nilFunc) rfl) ak aa (ab (bF (cE [(0,aR x,48)] eH (l:=[(1,.pt (aR x))]) eH) (aj ?_)));refine SS ?_;exact ax (fQ (v:=.fn _ _ _) rfl) ak aa (ab (aD rfl rfl))
def SH(l:Nat)(x:Abs.End)(C:Nat->Mem->Nat->Prop)(n:Nat)(s:St):Prop:=∃ m nx,aL prog s ⟨ay [(0,.fn (.yield l) [] []),(1,.pt (aR x))],m,nx⟩/\C n m nx
def aal{x:Abs.End}(hlen:x.aA.length<=100000):B7 prog 171 [] [.pt (aR x)] ((dI x).map λn=>[I n]):=by
 refine ai1 mixed (fo f171) kr λl U Stop m nx hI YB h0=>?_;by_cases O:aC [3,4] x.kind=true
 .have mG:((dI x).map λn=>[I n]).length=0:=by simp[dI,O]
  rw[mG];by_cases J:x.kind=3
  .have kQ:(x.kind==3)=true:=tn J
   refine aM (aj (aX ?_));(iterate 3 refine z λ_ _=>?_);refine af ?_;(iterate 5 refine z λ_ _=>?_);refine SS ?_;refine ab (cG rfl (λh=>Xv (bD (bc (BA (.inl h0))))) λh=>oH)
  .have h4:x.kind=4:=by simpa[aC,J] using O
   have kQ:(x.kind==3)=false:=tn J
   have Le:(x.kind==4)=true:=tn h4
   refine aM (aj (bg ?_));(iterate 5 refine z λ_ _=>?_);refine SS ?_;refine ab (cG rfl (λh=>Xv (bD (bc (BA (.inl h0))))) λh=>oH)
 have O:aC [3,4] x.kind=false:=tn O
 let⟨x0,x1,xw,xo,xl⟩:=agG O;have C:∀ {k:Nat} {n:Int},(dI x)[k]? =some n->((dI x).map λn=>[I n])[k]? =some [I n]:=λh=>by simp[h]
 have wi:((dI x).map λn=>[I n]).length=sX x+x.aA.length+(if jD x then 1 else 0):=tn xl
 have w9:x.kind≠3/\x.kind≠4:=by simpa[aC] using O
 refine cI (SH l x U 1) ?_ λs hs=>?_
 .have kQ:(x.kind==3)=false:=tn w9.1
  have Le:(x.kind==4)=false:=tn w9.2
  refine ws (bg ?_);refine az ?_;refine Qo rfl rfl rfl rfl aB ⟨rfl,0,C x0,h0,λd m' aw hp=>?_⟩;rcases hp with⟨rfl,hp⟩|⟨rfl,hp⟩
  .refine af ?_;exact ab (au rfl (λh=>oH) λh=>bd ⟨m',aw,ao eH,hp⟩)
  .refine af ?_;exact ab (au rfl (λh=>bD (bc (BA (.inr hp)))) λh=>oH)
 let⟨m1,nx1,hg,h1⟩:=hs;refine⟨_,hg,?_⟩;clear hg h0;refine cI (SH l x U (sX x)) ?_ λs hs=>?_
 .have yes:aC [2,8] x.kind=true->(dI x)[1]? =some x.cz/\sX x=2:=λh=>⟨x1 h,by simp[sX,h]⟩
  by_cases h2:x.kind=2
  .let⟨y1,y2⟩:=yes (by rw[h2];rfl);have kQ:(x.kind==2)=true:=tn h2
   refine ws (aX ?_);(iterate 3 refine z λ_ _=>?_);refine bG ?_;refine Qo rfl rfl rfl rfl aB ⟨rfl,1,C y1,h1,λd m' aw hp=>?_⟩;rcases hp with⟨rfl,hp⟩|⟨rfl,hp⟩
   .refine af ?_;exact ab (au rfl (λh=>oH) λh=>bd ⟨m',aw,ao eH,y2▸hp⟩)
   .refine af ?_;exact ab (au rfl (λh=>bD (bc (BA (.inr hp)))) λh=>oH)
  .have kQ:(x.kind==2)=false:=tn h2
   by_cases X:x.kind=8
   .let⟨y1,y2⟩:=yes (by rw[X];rfl);have Le:(x.kind==8)=true:=tn X
    refine ws (bg ?_);refine az ?_;refine Qo rfl rfl rfl rfl aB ⟨rfl,1,C y1,h1,λd m' aw hp=>?_⟩;rcases hp with⟨rfl,hp⟩|⟨rfl,hp⟩
    .refine af ?_;exact ab (au rfl (λh=>oH) λh=>bd ⟨m',aw,ao eH,y2▸hp⟩)
    .refine af ?_;exact ab (au rfl (λh=>bD (bc (BA (.inr hp)))) λh=>oH)
   .have Le:(x.kind==8)=false:=tn X
    have hb:sX x=1:=by simp[sX,aC,h2,X]
    refine ws (bg ?_);(iterate 5 refine z λ_ _=>?_);refine SS ?_;exact ab (au rfl (λh=>oH) λh=>bd ⟨m1,nx1,ao eH,hb▸h1⟩)
 let⟨m2,jl,hg,h2⟩:=hs;refine⟨_,hg,?_⟩;clear hg;refine cI (SH l x U (sX x+x.aA.length)) (aF ?_) λs hs=>?_
 .refine aX ?_
  refine ab (gl (α:=Nat×Mem×Nat) (λk=>⟨ay [(0,.fn (.yield l) [] []),(1,.pt (aR x)),(36,lg x.aA),(37,I x.aA.length),(38,I k.1)],k.2.1,k.2.2⟩)
   (λk=>k.1<=x.aA.length/\U (sX x+k.1) k.2.1 k.2.2) (λk=>x.aA.length - k.1) (0,m2,jl) (ao eH) ⟨oG,h2⟩ ?_)
  rintro⟨k,m3,Sr⟩ ⟨hk,L5⟩;refine SS ?_;refine ab ⟨_,rfl,λh=>?_,λh=>?_⟩
  .have al:k<x.aA.length:=tn h
   have hx:x.aA[k]? =some x.aA[k]:=by simp[al]
   generalize x.aA[k]=w at hx;refine ws (az ?_);refine bT (eK (cs':=cK _) rfl rfl s3 rfl) ak (bW V.h V.h bk (by rfl)) (er (SS ?_));refine ax (oi rfl s3 V.h) ak (jK V.h) (ax (fe rfl s3 rfl V.h) ak (fh V.h V.h rfl) (aad rfl rfl aB ⟨rfl,sX x+k,C (xw k w hx),hI _ _ _ _ _ L5 oG (λi hi=>aq oG (aq oG rfl)),λd m' aw hp=>?_⟩));rcases hp with⟨rfl,hp⟩|⟨rfl,hp⟩
   .refine SS ?_;refine ab (au rfl (λh=>oH) λh=>eQ ?_);refine af ?_;exact ab (bA (k+1,m',aw) (ao eH) ⟨by simp only;omega,hp⟩ (by simp only;omega))
   .refine SS ?_;exact ab (au rfl (λh=>bD (dd (bc (BA (.inr hp))))) λh=>oH)
  .have bJ:¬ k<x.aA.length:=tn h
   have:k=x.aA.length:=by simp only at hk;omega
   subst this;exact⟨m3,Sr,.forget _ _ _ _ λt=>td (l:=[(0,.fn (.yield l) [] []),(1,.pt (aR x))]) ⟨rfl,rfl,aa⟩ t,L5⟩
 let⟨m3,Sr,hg,J⟩:=hs;refine⟨_,hg,aj ?_⟩;refine bg ?_;refine bg ?_;refine ab (au rfl (λh=>?_) λh=>?_)
 .have hc:jD x=true:=by
   revert h;unfold jD aC;simp[ib,or_assoc]
  refine lu (az ?_);refine aad rfl rfl aB ⟨rfl,_,C (xo hc),J,λd m' aw hp=>?_⟩;refine ab (Ku ?_);rcases hp with⟨rfl,hp⟩|⟨rfl,hp⟩
  .left;rw[wi,bi hc];exact hp
  .exact .inr hp
 .have hc:jD x=false:=by
   revert h;unfold jD aC;simp[ib,and_assoc]
  refine eQ (Ku (.inl ?_));rw[wi,hc];exact J
def D7(x:End)(b:Int):Bool:=aZ x.to b&&aZ ((dI x).count b:Nat) 1
def OX(x:End):(dI x).length<=x.aA.length+3:=by
 unfold dI;split
 .simp
 .simp[length_cons,length_append,length_map];split<;>split<;>simp<;>omega
section
theorem RC{x:Abs.End}{b:Int}(hlen:x.aA.length<=1000):aE prog 222 [.agg (aR x),I b] (B (D7 x b)):=by
 have J:∀ a∈[D.agg (aR x),I b],Tr a:=.cons (.agg (ot x)) fl;have za:=za (x:=x);have hl:=OX x;refine bN (fo f222) J (Tr.s _) ?_;refine aF (SS ?_);refine cY (Ks (d:=.s (.int _ _)) rfl rfl) ak rfl (SS ?_);refine ab (bF (cE [(0,aR x,48),(1,[I b],3)] eH (l:=[(2,.pt (aR x)),(3,.pt [I b])]) eH) (aj ?_));refine SS ?_;refine bT (dM (d:=.s (.int _ _)) (cs':=[_]) rfl rfl rfl rfl rfl) ak (bW V.h V.h bk rfl) (ab (cI (λs=>∃ n',aL prog s ⟨ay [(2,.pt (aR x)),(3,.pt [I b]),(5,.rp 2 0)],b8 [(2,.cells [I ((dI x).count b:Nat)] 3)],n'⟩) (aj ?_) λs hs=>?_))
 .refine SS ?_;refine cl za ?_;refine ab (qQ ?_);refine⟨rfl,aa,171,[],[.pt (aR x)],(dI x).map (λn=>[I n]),λk m nx=>m 2=some (.cells [I (((dI x).take k).count b:Nat)] 3)/\3<=nx,rfl,aal oG,?_,⟨rfl,oS⟩,?_,?_⟩
  .intro y hy;obtain⟨n,_,rfl⟩:=List.mem_map.1 hy;exact⟨rfl,.cons (.s _) .nil⟩
  .rintro k m nx y hy ⟨an,O⟩;simp only[getElem?_map,eg] at hy;obtain⟨n,hn,rfl⟩:=hy;have hk:k<(dI x).length:=(bO.1 hn).1
   have hc:((dI x).take (k+1)).count b=((dI x).take k).count b+(if n=b then 1 else 0):=by
    rw[take_add_one,hn,count_append];by_cases e:n=b
    .subst e;simp
    .simp[e]
   have C:((dI x).take k).count b<=k:=Nat.le_trans count_le_length oP;generalize ((dI x).take k).count b=c at an hc C;refine lu (SS ?_);refine ab (show AW _ _ _ _ _ _ from qQ (aj (az ?_)));refine ab (au rfl (λh=>?_) λh=>?_)
   .have h:n=b:=by simpa using h
    refine lu ?_;refine af ?_;refine bT (dM (d:=.s (.int _ _)) (cs':=[_]) rfl rfl an rfl rfl) ak (bW V.h V.h (by first|(simp;done)|exact⟨rfl,aP rfl⟩|(simp;omega)) rfl) ?_;refine ab ?_;refine⟨?_,oM⟩;dsimp only;refine(ap _ _ _).trans ?_;rw[hc,bi h];simp
   .have h:¬ n=b:=tn h
    exact eQ ⟨by rw[hc,ai h];exact an,O⟩
  .rintro m nx ⟨h1,h2⟩;refine⟨nx,a6 eH ⟨?_,aa⟩⟩;rw[h1,length_map,take_length]
 let⟨n',hg⟩:=hs;refine⟨_,hg,aj ?_⟩;refine bg ?_;refine ab (aD (d:=.s (.bool _)) rfl ?_);simp[D7,aZ,ib]
variable{f:FuncId}{cs:List D}{xs:List Int}
def RD{f:FuncId}{cs:List D}{xs:List Int}(hs:B7 prog f [] cs (xs.map λn=>[I n]))(ht:Tr (.fn (.func f) [] cs))(hlen:xs.length<=100000):mV prog 297 [.z,.fn (.func f) [] cs] (xs.map I) xs.length 3:=by
 have bB:∀ a∈[D.z,.fn (.func f) [] cs],Tr a:=.cons .z (.cons ht .nil);refine y6 (fo f297) bB (.map λ_=>.s _) ?_;refine ws ?_;refine cY (Ks (d:=.z) rfl rfl) ak rfl ?_;refine SS ?_;refine ab ?_;refine cI (λs=>(xs=[]/\∃ n',aL prog s ⟨ay [(2,.rp 0 0)],b8 [(0,.cells [.z] 35)],n'⟩)\/∃ r n',0<r/\aL prog s ⟨ay [(2,.rp 0 0)],b8 [(0,.cells [.rs r 0 xs.length] 35),(r,.cells (xs.map I) 3)],n'⟩) (aj ?_) λs hs=>?_
 .refine SS ?_;refine ab (qQ ?_);refine⟨rfl,aa,f,[],cs,xs.map (λn=>[I n]),λk m nx=>1<=nx/\((k=0/\m 0=some (.cells [.z] 35))\/(0<k/\∃ r,0<r/\r<nx/\m 0=some (.cells [.rs r 0 k] 35)/\m r=some (.cells ((xs.take k).map I) 3))),rfl,hs,?_,⟨oS,.inl ⟨rfl,rfl⟩⟩,?_,?_⟩
  .intro y hy;obtain⟨n,_,rfl⟩:=List.mem_map.1 hy;exact⟨rfl,.cons (.s _) .nil⟩
  .rintro k m nx y hy ⟨eh,C⟩;simp only[List.getElem?_map,eg] at hy;obtain⟨n,hn,rfl⟩:=hy;have hk:k<xs.length:=(bO.1 hn).1
   have O:(xs.take (k+1)).map I=(xs.take k).map I++[I n]:=by
    rw[List.take_add_one,hn];simp
   refine lu ?_;refine SS ?_;refine ab (show AW _ _ _ _ _ _ from qQ (lu ?_));rcases C with⟨rfl,an⟩|⟨X,r,U,J,an,dQ⟩
   .refine aX ?_;refine bT (dM (d:=.rs _ _ _) (cs':=[_]) rfl rfl (aq oG (aq oG an)) rfl rfl) ak (bW V.h V.h (by first|(simp;done)|exact⟨rfl,aP rfl⟩|(simp;omega)) rfl) ?_;refine ab ?_;refine⟨oM,.inr ⟨oG,nx+1,oG,oM,?_,?_⟩⟩
    .dsimp only;exact(ap _ _ _).trans rfl
    .dsimp only;exact(aq oG (ap _ _ _)).trans (by rw[O];rfl)
   .have jo:((xs.take k).map I).length=k:=by simp;omega
    refine aX ?_;refine bT (dM (d:=.rs _ _ _) (cs':=[_]) rfl rfl (aq oG (aq oG (aq oG an))) rfl rfl) ak (bW V.h V.h (by first|(simp;done)|exact⟨rfl,aP rfl⟩|(simp;omega)) rfl) ?_;refine ab ?_;refine⟨oM,.inr ⟨oG,nx+1,oG,oM,?_,?_⟩⟩
    .dsimp only;exact(ap _ _ _).trans rfl
    .dsimp only;exact(aq oG (ap _ _ _)).trans (by rw[O];rfl)
  .rintro m nx ⟨eh,C⟩;rw[List.length_map] at C;rcases C with⟨h0,an⟩|⟨X,r,U,J,an,dQ⟩
   .exact .inl ⟨List.length_eq_zero_iff.1 h0,nx,a6 eH ⟨an,aa⟩⟩
   .refine .inr ⟨r,nx,U,a6 eH ⟨an,?_,aa⟩⟩;rw[dQ,List.take_length]
 rcases hs with⟨rfl,n',hg⟩|⟨r,n',hr,hg⟩
 .refine⟨_,hg,aF ?_⟩;refine af ?_;refine ab ⟨_,.mz _ _ _ 4 3 rfl,aD rfl ⟨n',?_,ap _ _ _⟩⟩;rfl
 .refine⟨_,hg,aj ?_⟩;refine af ?_;refine ab (aD rfl ⟨r,rfl,?_⟩);simp[b8];omega
def RE(hs:B7 prog f [] cs (xs.map λn=>[I n]))(ht:Tr (.fn (.func f) [] cs))(hlen:xs.length<=100000):mV prog 247 [.fn (.func f) [] cs] (xs.map I) xs.length 3:=by
 have C:∀ a∈[.fn (.func f) [] cs],Tr a:=.cons ht .nil;refine y6 (fo f247) C (.map λ_=>.s _) ?_;have RD:=RD hs ht hlen;refine ws (SS ?_);refine er (SS ?_);refine z6 RD rfl aB (SS ?_);exact ab (aD rfl ⟨0,rfl,rfl⟩)
end
section
variable{P:Program}{env:Env}{m:Mem}{nx:Nat}{x y:Operand}{t p:TypeId}{k:IntKind}{n n':Int}
def XX(hx:(opd env x).core=.s (.int .i64 n))(hy:(opd env y).core=.s (.int .i64 n')){r:Int}(hd:n - n'=r/\ -9223372036854775808<=r/\r<=9223372036854775807):Ef P (.binOp .sub t x y p) env m nx ⟨IntKind.i64=IntKind.i64,.s (.int .i64 r),[],[],0⟩:=by
 obtain⟨rfl,h⟩:=hd;exact P7 hx hy h
def pY{j i l:Nat}{e:TypeId}{r:Row}(hx:(opd env x).core=.rs j 0 l)(hy:(opd env y).core=.s (.int k (i:Int)))(hm:m j=some r)(he:aK P t=e)(hs:P.cellsOf e=1):
 Ef P (.indexAddr t x y) env m nx ⟨bE P t=true/\i<l,.rp j i,[],[j],0⟩:=by
 have h:=Pd (P:=P) (env:=env) (m:=m) (nx:=nx) (t:=t) hx hy hm he hs;have h1:0+((i:Int)).toNat*1=i:=by simp
 have h2:(bE P t=true/\(0:Int)<=(i:Int)/\(i:Int)<l)=(bE P t=true/\i<l):=by
  apply propext;constructor
  .rintro⟨a,_,b⟩;exact⟨a,oG⟩
  .rintro⟨a,b⟩;exact⟨a,oG,oG⟩
 rw[h1,h2] at h;exact h
def yq{α:Type}(f:Nat->α)(i:Nat)(a b:α):up (up f i a) i b=up f i b:=by
 funext j;simp[up];split<;>rfl
variable{Y:iz}{rf:Bool}{Q:Exit->St->Prop}{st:St}{id jO i1 i3:Nat}{rc ri:Array Oper}{body:Code}{α:Type}{cf:List (Nat×Nat)}{u:Nat}
def ajn[fD Y](hi:bV rc=some cf)(S:α->St)(J:α->Prop)(μ:α->Nat)(C:α)(hg:aL P st (S C))(hJ:J C)
 (h:∀ x,J x->aJ P Y rc true cf (iN λs=>∃ g,opd s.env (.tmp u)=.s (.bool g)/\(g=true->AW P Y rf body (oE jO id (λs=>aJ P Y ri false [] (iN (El P S J μ x)) ri.toList s []) Q) s)/\(g=false->Q .normal s)) rc.toList (S x) []):
 ∃ st',aL P st st'/\AW P Y rf (.block id (.loop (.seq (.seq (.region i1 rc true) (.cond (.tmp u) .skip (.exit id))) (.seq (.block jO body) (.region i3 ri false))))) Q st':=by
 refine JM (Q:=jH id Q) S J μ C hg hJ (λx hx=>?_) (a:=.skip) λ_ h=>h;refine aM (D6 (rf:=rf) (id:=i1) hi (aJ.nT (h x hx) λs hs=>?_));let⟨g,h1,h2,X⟩:=hs;refine⟨s,.refl s,cG h1 (λO=>?_) λU=>?_⟩
 .exact dn (OG (h2 O))
 .apply tU;simp[iM,jH,if_true];exact X U
def xB{l:List (Nat×D)}{m':Mem}(h:p8 l env)(hm:m=m'):aL P ⟨env,m,nx⟩ ⟨ay l,m',nx⟩:=hm▸ao h
end
def swapAt(l:List Int)(j:Nat):List Int:=(l.set (j+1) (l.getD j 0)).set j (l.getD (j+1) 0)
def rF(l:List Int):Nat->List Int
 |0=>l
 |j+1=>if l.getD (j+1) 0<l.getD j 0 then rF (swapAt l j) j else l
def py(l:List Int):Nat->List Int
 |0=>l
 |k+1=>rF (py l k) (k+1)
def qe(l:List Int):List Int:=py l (l.length - 1)
@[simp] theorem asV (l : List Int) (j : Nat) : (swapAt l j).length = l.length := by simp [swapAt]
@[simp] theorem agQ : ∀ (j : Nat) (l : List Int), (rF l j).length = l.length
 |0,l=>rfl
 |j+1,l=>by simp[rF];split<;>simp[agQ j]
@[simp] theorem UO (l : List Int) : ∀ k, (py l k).length = l.length
 |0=>rfl
 |k+1=>by simp[py,UO l k]
@[simp] theorem UP (l : List Int) : (qe l).length = l.length := UO l _
section
def apa{a:Int}:aE prog 351 [I a] (B false):=by
 refine bN (fo f351) (by simp[Tr.s]) (Tr.s _) ?_;refine ws (SS ?_);refine er (aX ?_);refine ab (aD (d:=.s (.bool _)) rfl ?_);simp[bne]
def apb{a b:Int}:aE prog 330 [I a,I b] (B (decide (a<b))):=by
 refine bN (fo f330) (by simp[Tr.s]) (Tr.s _) ?_;refine ws (SS ?_);refine er (SS ?_);refine cl apa ?_;refine SS ?_;(iterate 3 refine z λ_ _=>?_);refine eD ?_;exact ab (aD (d:=.s (.bool _)) rfl rfl)
variable{m:Mem}{n:Nat}{l:List Int}
def apc{nx i:Nat}(hi:i<nx)(hm:m i=some (.cells (l.map I) 3))(hl:l.length=n)(hn:n<=12):
 iZ prog 324 [.rs i 0 n,I 0,I n] m nx (λr m' aw=>r=.bu []/\aw=nx/\m'=up m i (some (.cells ((qe l).map I) 3))):=by
 refine y8 (fo f324) ?_
 have U:up m i (some (.cells (l.map I) 3))=m:=by
  funext j;simp only[up];split
  .rename_i e;rw[e,hm]
  .rfl
 refine aF (az ?_);refine ab (dS (α:=Nat) (λk=>⟨ay [(0,.rs i 0 n),(1,I 0),(2,I n),(6,I (k+1:Nat))],up m i (some (.cells ((py l k).map I) 3)),nx⟩) (λk=>k<=n - 1) (λk=>n - k) 0 (xB eH U.symm) oG ?_);intro k hk;refine az ?_;refine ab ⟨_,rfl,λh=>?_,λh=>?_⟩
 .have al:k+1<n:=by have:((k+1:Nat):Int)<n:=tn h
                    omega
  refine aF (af ?_);refine ab (ajn iB (α:=List Int×Nat) (λs=>⟨ay [(0,.rs i 0 n),(1,I 0),(2,I n),(6,I (k+1:Nat)),(7,I s.2)],up m i (some (.cells (s.1.map I) 3)),nx⟩) (λs=>s.1.length=n/\s.2<=k+1/\rF s.1 s.2=py l (k+1)) (λs=>s.2) (py l k,k+1) (ao eH) ⟨by simp[hl],oS,rfl⟩ ?_);rintro⟨d,j⟩ ⟨hd,hj,hs⟩;simp only at hd hj hs;cases j with
  |zero=>
   have yE:decide ((0:Int)<((0:Nat):Int))=false:=rfl;refine af ?_;refine aax ?_;refine SS ?_;(iterate 10 refine z λ_ _=>?_);refine SS ?_;refine bU bX ⟨_,rfl,λh=>oH,λh=>?_⟩;have hs:d=py l (k+1):=hs;subst hs;show aJ _ _ _ _ _ _ _ _ _;refine az ?_;exact ab (bA (k+1) (ao eH) oG oG)
  |succ j=>
   have ha:d[j+1]? =some d[j+1]:=aV oG;have hb:d[j]? =some d[j]:=aV oG;have J:d.getD (j+1) 0=d[j+1]:=by simp[dF,ha]
   have O:d.getD j 0=d[j]:=by simp[dF,hb]
   have kd:=nv (f:=I) ha;have C:=nv (f:=I) hb;generalize X:d[j+1]=a at ha J kd;generalize hB:d[j]=b at hb O C;clear X hB;have yE:decide ((0:Int)<((j+1:Nat):Int))=true:=by simp
   have Ap:((j+1:Nat):Int) - 1=(j:Int)/\ -9223372036854775808<=(j:Int)/\(j:Int)<=9223372036854775807:=by omega
   refine af ?_;refine aax ?_;refine az ?_;refine cq rfl rfl (pY rfl rfl s3 V.h V.h) (λhc=>⟨ak,⟨V.h,oG⟩⟩) (cq rfl rfl (fe rfl s3 kd V.h) (λhc=>⟨ak,(fh V.h V.h kd)⟩) (az ?_));refine cq rfl rfl (pY rfl rfl s3 V.h V.h) (λhc=>⟨ak,⟨V.h,oG⟩⟩) (cq rfl rfl (fe rfl s3 C V.h) (λhc=>⟨ak,(fh V.h V.h C)⟩) (gc apb ?_));refine SS ?_;refine bU bX ⟨_,rfl,λh=>?_,λh=>?_⟩
   .have h:a<b:=tn h
    refine r8 iB (bg ?_);refine ax (fe rfl s3 C V.h) ak (fh V.h V.h C) (cF ?_);refine bU bX (az ?_);refine ab (bA (swapAt d j,j) (xB eH ?_) ⟨by simp[hd],by simp only;omega,?_⟩ (by simp only;omega))
    .rw[yq,yq];simp only[swapAt,J,O,map_set]
    .rw[<- hs];simp only[rF,J,O,bi h]
   .have h:¬ a<b:=tn h
    have hs:d=py l (k+1):=by rw[<- hs];simp only[rF,J,O,ai h]
    subst hs;show aJ _ _ _ _ _ _ _ _ _;refine az ?_;exact ab (bA (k+1) (ao eH) oG oG)
 .have bJ:¬ k+1<n:=by have h:¬ ((k+1:Nat):Int)<n:=tn h
                      omega
  refine Ku ⟨rfl,rfl,?_⟩;have:k=n - 1:=by omega
  subst this;simp only[qe,hl]
def apd{nx i:Nat}{lim:Int}(hi:i<nx)(hm:m i=some (.cells (l.map I) 3))(hl:l.length=n)(hn:n<=12):
 iZ prog 298 [.rs i 0 n,I 0,I n,I lim] m nx (λr m' aw=>r=.bu []/\aw=nx/\m'=up m i (some (.cells ((qe l).map I) 3))):=by
 refine y8 (fo f298) ?_;refine ws (SS ?_);refine ab (aF (SS ?_));refine ab ⟨_,ao (l:=[(0,.rs i 0 n),(1,I 0),(2,I n)]) eH,qQ (Wn (λs=>s=⟨ay [(0,.rs i 0 n),(1,I 0),(2,I n)],m,nx⟩) (λ_=>0) rfl λs hs=>?_)⟩;subst hs;refine qQ (aj (aX ?_));refine ab (aM (aj (SS ?_)));refine ax (KW rfl rfl) ak rfl (ab (cG rfl (λh=>?_) λh=>?_))
 .refine aM (aj (az ?_));refine wj (apc hi hm hl hn) rfl aB λr m' aw hp=>?_;obtain⟨rfl,rfl,rfl⟩:=hp;exact ab (dX (cu (bc (cu (BA ⟨rfl,rfl,rfl⟩)))))
 .have:¬ ((n:Int) - 0<=12):=tn h
  omega
def RG(hn:n<=12):∃ r,aE prog 189 [.s (.int .u64 (IntKind.u64.wrap (n:Int)))] (I r):=by
 match n,hn with
 |0,_=>exact⟨0,pS qX 100 kr rfl⟩
 |1,_=>exact⟨1,pS qX 100 kr rfl⟩
 |2,_=>exact⟨2,pS qX 100 kr rfl⟩
 |3,_=>exact⟨2,pS qX 100 kr rfl⟩
 |4,_=>exact⟨3,pS qX 100 kr rfl⟩
 |5,_=>exact⟨3,pS qX 100 kr rfl⟩
 |6,_=>exact⟨3,pS qX 100 kr rfl⟩
 |7,_=>exact⟨3,pS qX 100 kr rfl⟩
 |8,_=>exact⟨4,pS qX 100 kr rfl⟩
 |9,_=>exact⟨4,pS qX 100 kr rfl⟩
 |10,_=>exact⟨4,pS qX 100 kr rfl⟩
 |11,_=>exact⟨4,pS qX 100 kr rfl⟩
 |12,_=>exact⟨4,pS qX 100 kr rfl⟩
def ape{nx i:Nat}{l:List Int}(hi:i<nx)(hm:m i=some (.cells (l.map I) 3))(hl:l.length=n)(hn:n<=12):
 iZ prog 248 [.rs i 0 n] m nx (λr m' aw=>r=.bu []/\aw=nx/\m'=up m i (some (.cells ((qe l).map I) 3))):=by
 refine y8 (fo f248) ?_;let⟨lim,RG⟩:=RG hn;have an:=hm;refine ws (az ?_);refine ab (lu (az ?_));refine ax (Xr rfl V.h) ak V.h (cl RG ?_);refine wj (apd hi hm hl hn) rfl aB λr m' aw hp=>?_;obtain⟨rfl,rfl,rfl⟩:=hp;exact ab (Ku ⟨rfl,rfl,rfl⟩)
end
end Go.Abs
end
end
