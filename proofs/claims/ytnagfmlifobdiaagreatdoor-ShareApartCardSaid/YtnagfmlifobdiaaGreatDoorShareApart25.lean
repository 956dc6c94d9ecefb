/- Part 25. -/
import Derived.Test.YtnagfmlifobdiaaGreatDoorShareApart24
set_option linter.all false
set_option maxHeartbeats 0
set_option maxRecDepth 10000
namespace Go.Abs
open List
open Go.Proofs.Tryz
def aN:List (Nat×Nat)->List PW->List PW
 |_,[]=>[]
 |Z,x::T=>if x.1∈Z then aN Z T else x::aN (x.1::Z) T
def B4:∀ {T:List PW} {Z C:List (Nat×Nat)},(∀ p,p∈Z↔p∈C)->aN Z T=aN C T
 |[],_,_,_=>rfl
 |x::T,Z,C,h=>by
  simp[aN];by_cases hx:x.1∈Z
  .rw[bi hx,bi ((h _).1 hx),B4 h]
  .rw[ai hx,ai λe=>hx ((h _).2 e)];congr 1;exact B4 λp=>by rw[mem_cons,mem_cons,h p]
def Kr:∀ {T:List PW} {Z:List (Nat×Nat)} {p:Nat×Nat},(p∈Z\/p∈(aN Z T).map (·.1))↔(p∈Z\/p∈T.map (·.1))
 |[],_,_=>Iff.rfl
 |x::T,Z,p=>by
  simp only[aN];by_cases hx:x.1∈Z
  .rw[bi hx,Kr,map_cons,mem_cons];grind
  .have:=Kr (T:=T) (Z:=x.1::Z) (p:=p);rw[ai hx,map_cons,map_cons,mem_cons,mem_cons];rw[mem_cons] at this;grind
def Ki:∀ {T U:List PW} {Z:List (Nat×Nat)},aN Z (T++U)=aN Z T++aN (Z++T.map (·.1)) U
 |[],U,Z=>by simp[aN]
 |x::T,U,Z=>by
  simp[cons_append,aN];by_cases hx:x.1∈Z
  .rw[bi hx,bi hx,Ki];congr 1;exact B4 λp=>by simp[mem_append,map_cons,mem_cons];grind
  .rw[ai hx,ai hx,Ki,cons_append];congr 2;exact B4 λp=>by simp[mem_append,map_cons,mem_cons];grind
def fD(ca:List (List Nat))(x:PW)(n:Nat):List PW:=(range n).map λk=>(gn ca x.1 k,x.2++[k])
def Zt{ca:List (List Nat)}{x:PW}{n:Nat}:fD ca x (n+1)=fD ca x n++[(gn ca x.1 n,x.2++[n])]:=by
 rw[fD,range_succ,map_append];rfl
def Zv{ca:List (List Nat)}{fr:Nat×Nat}{x:PW}{S:List (Nat×Nat)}{O:List PW}:∀ n,ie ca fr x (S,O) n=(S++(aN (fr::S) (fD ca x n)).map (·.1),O++aN (fr::S) (fD ca x n))
 |0=>by simp[ie,fD,aN]
 |n+1=>by
  have C:ie ca fr x (S,O) (n+1)=sk ca fr x (ie ca fr x (S,O) n) n:=by rw[ie,range_succ,foldl_append];rfl
  rw[C,Zv n,Zt,Ki];have hm:=Kr (T:=fD ca x n) (Z:=fr::S) (p:=gn ca x.1 n);unfold sk;simp only[aN];simp only[mem_cons] at hm;by_cases h:gn ca x.1 n∈fr::S++(fD ca x n).map (·.1)
  .rw[bi h,ai,append_nil];rw[mem_append,mem_cons] at h;rw[mem_append];grind
  .rw[ai h,bi]
   .simp
   .rw[mem_append,mem_cons] at h;rw[mem_append];grind
abbrev CY(sn:List Nat)(x:PW):Bool:=sn.getD x.1.1 0 !=sn.getD x.1.2 0
structure RI(sn:List Nat)(ca:List (List Nat))(fr:Nat×Nat)(r:Option PW)(T:List PW)(Z:List (Nat×Nat)):Prop where
 ex:∃ (Y:List PW) (S:List (Nat×Nat)) (f:Nat),BI sn ca fr Y S (aN Z T)/\Z=Y.map (·.1)/\ca.length*ca.length<f+Y.length/\(pR sn ca fr f (S,aN Z T)).find? (CY sn)=r
 lt:∀ x∈T,x.1.1<ca.length/\x.1.2<ca.length
 wl:∀ x∈T,x.2.length<=Z.length
section
variable{sn:List Nat}{ca:List (List Nat)}{fr:Nat×Nat}{r:Option PW}{x:PW}{T:List PW}{Z:List (Nat×Nat)}
def RI.start{a b:Nat}(ha:a<ca.length)(hb:b<ca.length):RI sn ca (a,b) (wM sn ca a b) [((a,b),[])] []:=by
 refine⟨⟨[],[],ca.length*ca.length+2,⟨λx hx=>?_,rfl,oS,by simp[aN],λx hx y hy=>?_,λx hx=>by simp at hx⟩,rfl,oS,rfl⟩,λx hx=>?_,λx hx=>?_⟩
 .simp[aN,not_mem_nil,if_false,nil_append,mem_cons,or_false] at hx;subst hx;exact .nil
 .simp[aN,not_mem_nil,if_false,mem_cons,or_false] at hx hy;subst hx hy;omega
 all_goals
  simp[mem_cons,not_mem_nil,or_false] at hx;subst hx
 .exact⟨ha,hb⟩
 .exact bY _
def RI.len(h:RI sn ca fr r T Z)(ao:∀ w p,mZ sn ca fr w p->p.1<ca.length/\p.2<ca.length):Z.length<=ca.length*ca.length:=by
 obtain⟨Y,S,f,h1,rfl,C,J⟩:=h.ex;have:=CW h1 ao;rw[length_map];omega
def RI.nil(h:RI sn ca fr r [] Z):r=none:=by
 obtain⟨Y,S,f,h1,rfl,J,C⟩:=h.ex;rw[<- C];cases f<;>rfl
def RI.skip(h:RI sn ca fr r (x::T) Z)(hx:x.1∈Z):RI sn ca fr r T Z:=by
 let⟨Y,S,f,h1,h2,J,C⟩:=h.ex;have e:aN Z (x::T)=aN Z T:=by simp only[aN];rw[bi hx]
 rw[e] at h1 C;exact⟨⟨Y,S,f,h1,h2,J,C⟩,λy hy=>h.lt y (mem_cons_of_mem _ hy),λy hy=>h.wl y (mem_cons_of_mem _ hy)⟩
def RI.open(h:RI sn ca fr r (x::T) Z)(hx:x.1∉Z)(ao:∀ w p,mZ sn ca fr w p->p.1<ca.length/\p.2<ca.length):∃ (Y:List PW) (S:List (Nat×Nat)) (f:Nat),BI sn ca fr Y S (x::aN (x.1::Z) T)/\Z=Y.map (·.1)/\ca.length*ca.length<f+(Y.length+1)/\
 (x::pR sn ca fr f (rE sn ca fr (S,x::aN (x.1::Z) T))).find? (CY sn)=r:=by
 let⟨Y,S,f,h1,h2,J,C⟩:=h.ex;have e:aN Z (x::T)=x::aN (x.1::Z) T:=by simp only[aN];rw[ai hx]
 rw[e] at h1 C;have:=CW h1 ao;simp[length_cons] at this;obtain⟨f,rfl⟩:∃ g,f=g+1:=⟨f - 1,oG⟩
 exact⟨Y,S,f,h1,h2,oG,C⟩
def RI.hit(h:RI sn ca fr r (x::T) Z)(hx:x.1∉Z)(ao:∀ w p,mZ sn ca fr w p->p.1<ca.length/\p.2<ca.length)(hs:sn.getD x.1.1 0≠sn.getD x.1.2 0):r=some x:=by
 let⟨Y,S,f,h1,h2,J,C⟩:=h.open hx ao;rw[<- C,find?_cons];have:CY sn x=true:=by simpa[CY] using hs
 rw[this]
def RI.next(h:RI sn ca fr r (x::T) Z)(hx:x.1∉Z)(M:JD ca)(hlen:adw sn ca)(ao:∀ w p,mZ sn ca fr w p->p.1<ca.length/\p.2<ca.length)(hs:sn.getD x.1.1 0=sn.getD x.1.2 0):RI sn ca fr r (T++fD ca x (ca.getD x.1.1 []).length) (Z++[x.1]):=by
 let⟨Y,S,f,h1,h2,h3,C⟩:=h.open hx ao;have U:=UA h1;have hp:=h1.acq
 have dA:rE sn ca fr (S,x::aN (x.1::Z) T)=(S++(aN (fr::S) (fD ca x (ca.getD x.1.1 []).length)).map (·.1),aN (Z++[x.1]) (T++fD ca x (ca.getD x.1.1 []).length)):=by
  unfold rE;simp only[bi hs];rw[Zv];refine Prod.ext rfl ?_;simp only[List.cons_append,List.drop_succ_cons,List.drop_zero];rw[Ki];congr 1
  .exact B4 λp=>by simp only[mem_append,mem_cons,not_mem_nil,or_false];grind
  .refine B4 λp=>?_;have hm:=Kr (T:=T) (Z:=x.1::Z) (p:=p);rw[<- hp,map_append,map_cons, <- h2];simp only[mem_append,mem_cons,not_mem_nil,or_false] at hm ⊢;grind
 rw[dA] at U C;have J:=h.lt x (mem_cons_self ..);refine⟨⟨Y++[x],_,f,U,by simp[h2],s0 h3,?_⟩,λy hy=>?_,λy hy=>?_⟩
 .rw[find?_cons] at C;have:CY sn x=false:=by simpa[CY] using hs
  rw[this] at C;exact C
 .rcases mem_append.1 hy with hy|hy
  .exact h.lt y (mem_cons_of_mem _ hy)
  .obtain⟨k,hk,rfl⟩:=mem_map.1 hy;have hk:=mem_range.1 hk;have X:k<(ca.getD x.1.2 []).length:=by rw[<- hlen _ _ J.1 J.2 hs];exact hk
   exact⟨M x.1.1 _ (bD (fx hk)),M x.1.2 _ (bD (fx X))⟩
 .rw[length_append];rcases mem_append.1 hy with hy|hy
  .have:=h.wl y (mem_cons_of_mem _ hy);omega
  .obtain⟨k,hk,rfl⟩:=mem_map.1 hy;have:=h.wl x (mem_cons_self ..);simp;omega
end
end Go.Abs
namespace Go.Abs
open List
section
variable{c:Code}{il n₀:Nat}{f:Nat->Option Nat}{mc:Mem}{nc:Nat}{m:Mem}{nx l:Nat}{o:Obj}{args:List D}
section
variable{P:Program}{F:Nat->Prop}{fn:Func}
def SI(I:(Nat->Prop)->Mem->Nat->Prop):Prop:=∀ (S:Nat->Prop) m nx (C:Nat->Prop) m' nx',I S m nx->nx<=nx'->(∀ i,i<nx->¬ S i->m' i=m i)->(∀ i,C i->S i\/(nx<=i/\i<nx'))->I C m' nx'
def Tt(I:(Nat->Prop)->Mem->Nat->Prop):Prop:=∀ (S:Nat->Prop) m nx (q:Nat) (σ:D->D),S q->I S m nx->I S (λj=>if j=q then none else(m j).map (Row.sub σ)) nx
def aa'(I:Nat->(Nat->Prop)->Mem->Nat->Prop)(Stop:Mem->Nat->Prop)(k:Nat)(S:Nat->Prop)(m:Mem)(nx:Nat)(d:D)(m':Mem)(nx':Nat):Prop:=
 ((d=.s (.bool true)/\I (k+1) S m' nx')\/(d=.s (.bool false)/\Stop m' nx'))/\nx<=nx'/\∀ i,S i->m' i=m i
def NZ(P:Program)(f:FuncId)(fs cs:List D)(xs:List (List D)):Prop:=
 pD P f=true/\∀ (F:Nat->Prop) (l:Nat) (I:Nat->(Nat->Prop)->Mem->Nat->Prop) (Stop:Mem->Nat->Prop) (m:Mem) (nx:Nat) (β:aZ) (w:World) (vs:Array Value),(∀ k,SI (I k))->(∀ k,Tt (I k))->Bs Stop->
  bc P F m β w->(∀ i,nx<=i->β i=none)->Rs F β w (fs++[.fn (.yield l) [] []]++cs) vs->
  (∀ k x S m nx,xs[k]? =some x->(∀ i,S i->i<nx)->I k S m nx->ua P F β w l x m nx (aa' I Stop k S m nx))->I 0 (λ_=>False) m nx->
  Calls P f vs w λe w'=>∃ v d m' nx' β',e=.returned v/\((∃ S,I xs.length S m' nx')\/Stop m' nx')/\bc P F m' β' w'/\(∀ i,nx'<=i->β' i=none)/\R F β' w' d v/\Step β w β' w'/\nx<=nx'/\∀ i,i<nx->β i=none->β' i=none
def aee(C:Nat)(xs:List (List D))(I:Nat->(Nat->Prop)->Mem->Nat->Prop)(Stop:Mem->Nat->Prop):iu:=λl args m nx fq=>
 l=C/\∃ k S,xs[k]? =some args/\(∀ i,S i->i<nx)/\I k S m nx/\∀ d m' nx',aa' I Stop k S m nx d m' nx'->fq d m' nx'
instance{l:Nat}{xs:List (List D)}{I:Nat->(Nat->Prop)->Mem->Nat->Prop}{Stop:Mem->Nat->Prop}:fG (aee l xs I Stop):=⟨λ_ _ _ _ _ _ hk ⟨h1,k,S,h2,C,J,M⟩=>⟨h1,k,S,h2,C,J,λd m nx h=>hk _ _ _ (M d m nx h)⟩⟩
def alQ(oq:P.follows .mixedOrders=true){f:FuncId}(hf:Aw P f fn c){fs cs:List D}(hn:Nat.ble (fs.length+1+cs.length) fn.ntmps=true){xs:List (List D)}
 (h:∀ (l:Nat) (I:Nat->(Nat->Prop)->Mem->Nat->Prop) (Stop:Mem->Nat->Prop) (m:Mem) (nx:Nat),(∀ k,SI (I k))->(∀ k,Tt (I k))->Bs Stop->I 0 (λ_=>False) m nx->
  AW P (aee l xs I Stop) true c (pb P fn.results.toList λ_ st=>(∃ S,I xs.length S st.mem st.nx)\/Stop st.mem st.nx) ⟨pN (fs++[.fn (.yield l) [] []]++cs),m,nx⟩):NZ P f fs cs xs:=
 ⟨hf.he,λF l I Stop m nx β w vs hI hF C hm U hR hy h0=>
  (Lo oq hf.hf hf.hb hf.ao (by simpa[Nat.add_assoc,Nat.add_comm,Nat.add_left_comm] using hn) (h l I Stop m nx hI hF C h0) (λl' args m' nx' K hK=>by
   obtain⟨rfl,k,S,h1,h2,J,M⟩:=hK
   exact(hy k args S m' nx' h1 h2 J).mono M) hm U hR).mono λe w' ⟨v,d,st',β',h1,h2,J,M,X,h6,h7,h8⟩=>⟨v,d,st'.mem,st'.nx,β',h1,h2,M,X,J,h6,h7,h8⟩⟩
def AX(P:Program)(Y:iu):Code->(Exit->St->Prop)->St->Prop
 | .seq a b,Q,st=>AX P Y a (jI (λst'=>∃ C,aP P st' C/\AX P Y b Q C) Q) st
 | .block id b,Q,st=>AX P Y b (kf id Q) st
 | .rangeFunc g ps assign body,Q,st=>(opd st.env g).ask/\∃ f fs cs xs,∃ I:Nat->Mem->Nat->Prop,(opd st.env g).core=.fn (.func f) fs cs/\NZ P f fs cs xs/\(∀ x∈xs,x.length=ps.size/\∀ d∈x,Tr d)/\I 0 st.mem st.nx/\
   (∀ k m nx x,xs[k]? =some x->I k m nx->AW P iV false assign (am6 λs=>AW P iV false body (aoA st.env (I (k+1)) Q) s) ⟨z6 st.env ps.toList x,m,nx⟩)/\
   ∀ m nx,I xs.length m nx->Q .normal ⟨st.env,m,nx⟩
 |c,Q,st=>AW P Y true c Q st
def View.al8(h:View il n₀ f mc nc m nx){β:aZ}{w:World}(hm:bc P F m β w)(hn:∀ i,nx<=i->β i=none){o':Obj}(hl:m il=some (.raw l o))
 {m':Mem} {X:Nat} {β':aZ} {w':World} (kO:bc P (hidden F β f) m' β' w') (hs:yY l (β.via f) w β' w') (fO:∀ i,X<=i->β' i=none) (hle:nc<=X) (hg:∀ i,i<nc->(β.via f) i=none->β' i=none) (ho:w'.heap[l]? =some o'):
 ∃ C M vN J,View il n₀ C m' X M vN/\M il=some (.raw l o')/\bc P F M J w'/\(∀ i,vN<=i->J i=none)/\Step β w J w'/\nx<=vN/\(∀ i,i<nx->β i=none->J i=none)/\
  (∀ i j,C i=some j->f i=some j\/nx<=j)/\∀ j,j<nx->j≠il->(∀ i,f i≠some j)->M j=m j:=by
 let⟨JV,qT,UX,ao⟩:=hm.F3 hl
 let C:Nat->Option Nat:=λi=>if i<nc then f i else if i<X then some (nx+(i - nc)) else none
 have I0:∀ i,i<nc->C i=f i:=λi hi=>by simp[C,hi]
 have SQ:∀ i,nc<=i->i<X->C i=some (nx+(i - nc)):=λi h1 h2=>by simp[C,h2,Nat.not_lt.2 h1]
 have acf:∀ i,X<=i->C i=none:=λi h1=>by simp[C,Nat.not_lt.2 h1,Nat.not_lt.2 (Nat.le_trans hle h1)]
 have Bl:∀ i j,C i=some j->(f i=some j/\i<nc/\j<nx)\/(nc<=i/\i<X/\j=nx+(i - nc)):=λi j hf=>by
  rcases Nat.lt_or_ge i nc with h1|h1
  .rw[I0 i h1] at hf;exact .inl ⟨hf,h.BR hf |>.1,(h.BR hf).2.1⟩
  .rcases Nat.lt_or_ge i X with h2|h2
   .rw[SQ i h1 h2] at hf;cases hf;exact .inr ⟨h1,h2,rfl⟩
   .rw[acf i h2] at hf;cases hf
 have SR:∀ i i' j,C i=some j->C i'=some j->i=i':=λi i' j h1 h2=>by
  rcases Bl i j h1 with⟨a1,a2,a3⟩|⟨a1,a2,a3⟩<;>rcases Bl i' j h2 with⟨b1,b2,b3⟩|⟨b1,b2,b3⟩
  .exact h.inj i i' j a1 b1
  .omega
  .omega
  .omega
 let inv:Nat->Option Nat:=λj=>(range X).find? λi=>C i==some j
 have BS:∀ i j,inv j=some i->C i=some j:=λi j hi=>((X0 SR).1 i hi).1;have TN:∀ i j,C i=some j->inv j=some i:=λi j hf=>(X0 SR).2 i (by rcases Bl i j hf with h1|h1<;>omega) hf
 have atJ:∀ j,inv j=none->∀ i,f i≠some j:=λj hj i hf=>by
  have:=TN i j (by rw[I0 i (h.BR hf).1];exact hf);rw[hj] at this;cases this
 let J:aZ:=λj=>match inv j with|some i=>β' i|none=>β j
 let M:Mem:=λj=>match inv j with|some i=>(m' i).map (Row.ze C)|none=>if j=il then some (.raw l o') else m j
 have βs:∀ i j,C i=some j->J j=β' i:=λi j hf=>by simp[J,TN i j hf]
 have βn:∀ j,inv j=none->J j=β j:=λj hj=>by simp[J,hj]
 have aoz:inv il=none:=by
  cases hi:inv il with
  |none=>rfl
  |some i=>
   rcases Bl i il (BS i il hi) with⟨a1,a2,a3⟩|⟨a1,a2,a3⟩
   .exact absurd rfl (h.BR a1).2.2
   .have:=h.lt;omega
 have via:J.via C=β':=by
  funext i;simp[aZ.via];cases hf:C i with
  |some j=>exact βs i j hf
  |none=>
   rcases Nat.lt_or_ge i X with h1|h1
   .rcases Nat.lt_or_ge i nc with h2|h2
    .let⟨j,h3,_⟩:=h.Of i h2;rw[I0 i h2,h3] at hf;cases hf
    .rw[SQ i h2 h1] at hf;cases hf
   .exact(fO i h1).symm
 have look:∀ j p,J j=some p->(∃ i,inv j=some i/\C i=some j/\β' i=some p)\/(inv j=none/\β j=some p):=λj p hp=>by
  cases hi:inv j with
  |some i=>exact .inl ⟨i,rfl,BS i j hi,by rw[<- βs i j (BS i j hi)];exact hp⟩
  |none=>exact .inr ⟨rfl,by rw[<- βn j hi];exact hp⟩
 have atL:∀ b,β.free b->b≠l:=λb hb e=>hb il _ JV (e▸rfl)
 have gp:∀ b,b<w.heap.size->β.free b->w'.heap[b]? =w.heap[b]? /\J.free b:=λb hb hf=>by
  let⟨h1,h2⟩:=hs.gp b hb (atL b hf) (aZ.Bg hf f);refine⟨h1,λj p hp=>?_⟩;rcases look j p hp with⟨i,_,_,h4⟩|⟨_,h4⟩
  .exact h2 i p h4
  .exact hf j p h4
 have kp:∀ j p,β j=some p->J j=some p\/J j=some .dead:=λj p hp=>by
  cases hi:inv j with
  |none=>exact .inl ((βn j hi).trans hp)
  |some i=>
   have hf:=BS i j hi;rw[βs i j hf];rcases Bl i j hf with⟨a1,a2,a3⟩|⟨a1,a2,a3⟩
   .exact hs.kp i p (by simp[aZ.via,a1,hp])
   .rw[hn j oG] at hp;cases hp
 have U:∀ j p b,inv j=none->β j=some p->p.cn=some b->hidden F β f b/\(b≠l->b<w.heap.size/\w'.heap[b]? =w.heap[b]?):=λj p b hj hp hb=>by
  let⟨h1,h2⟩:=h.LK hm (atJ j hj) hp hb;exact⟨h2,λaR=>⟨hm.lt j p b hp hb,(hs.gp b (hm.lt j p b hp hb) aR h1).1⟩⟩
 have XE:∀ j r,β j=some (.lp r)->J j=some (.lp r)->Skel w w' r:=λj r hp lu=>by
  have aR:r≠l:=λe=>by
   have:=hm.inj j il _ _ l hp JV (by simp[Pl.cn,e]) rfl;subst this;rw[JV] at hp;cases hp
  cases hi:inv j with
  |none=>exact sx ((U j _ r hi hp rfl).2 aR).2
  |some i=>
   have hf:=BS i j hi;rcases Bl i j hf with⟨a1,a2,a3⟩|⟨a1,a2,a3⟩
   .exact hs.lp i r aR (by simp[aZ.via,a1,hp]) (by rw[<- βs i j hf];exact lu)
   .rw[hn j oG] at hp;cases hp
 refine⟨C,M,nx+(X - nc),J,⟨Nat.le_trans h.low hle,by have:=h.lt;omega,λi hi=>?_,λi hi=>?_,acf,SR,λi r hi=>?_⟩,?_,⟨λj r hj=>?_,λi j p q b hp hq e e'=>?_,λj p b hp e=>?_,λj p b hp e hF=>?_,?_⟩,λi hi=>?_,⟨hs.size,gp,kp,hs.out,XE⟩,oG,λi hi hb=>?_,λi j hf=>?_,λj hj aR eD=>?_⟩
 .rw[I0 i (Nat.lt_of_lt_of_le hi h.low)];exact h.id i hi
 .rcases Nat.lt_or_ge i nc with h1|h1
  .let⟨j,h2,h3,h4⟩:=h.Of i h1;exact⟨j,by rw[I0 i h1];exact h2,oG,h4⟩
  .exact⟨_,SQ i h1 hi,oG,by have:=h.lt;omega⟩
 .let⟨p,hp,_⟩:=kO.row i r hi
  have:∃ j,C i=some j:=by
   rw[<- via] at hp;let⟨j,h1,_⟩:=Option.bind_eq_some_iff.1 hp;exact⟨j,h1⟩
  let⟨j,hj⟩:=this;exact⟨j,hj,by simp[M,TN i j hj,hi]⟩
 .simp[M,aoz]
 .cases hi:inv j with
  |some i=>
   simp[M,hi,ej] at hj;obtain⟨r0,tg,rfl⟩:=hj;let⟨p,hp,hr⟩:=kO.row i r0 tg;refine⟨p,(βs i j (BS i j hi)).trans hp,dG.adx (F':=hidden F β f) (by rw[via];exact hr) (λb hb=>.inl hb) λb g1 g2=>?_⟩;let⟨k,q,hq,Hy⟩:=YY g1;rcases look k q hq with⟨i',_,_,h4⟩|⟨h3,h4⟩
   .exact absurd Hy (g2 i' q (by rw[via];exact h4))
   .exact(U k q b h3 h4 Hy).1
  |none=>
   simp[M,hi] at hj;split at hj
   .rename_i e;subst e;cases hj;exact⟨.raw l,(βn j hi).trans JV,.raw l o' ho⟩
   .rename_i aR;let⟨p,hp,hr⟩:=hm.row j r hj;refine⟨p,(βn j hi).trans hp,hr.gen hs.size (λb hb g1 g2=>⟨CT (gp b hb g2).1,(gp b hb g2).2,g1⟩) (λi p _=>kp i p) λb hb=>?_⟩;exact((U j p b hi hp hb).2 λe=>aR (hm.inj j il p _ b hp JV hb (e▸rfl))).2
 .rcases look i p hp with⟨i',a1,a2,a3⟩|⟨a1,a2⟩<;>rcases look j q hq with⟨j',b1,b2,b3⟩|⟨b1,b2⟩
  .have:=kO.inj i' j' p q b a3 b3 e e';subst this;rw[a2] at b2;cases b2;rfl
  .exact absurd (U j q b b1 b2 e').1 (kO.nf i' p b a3 e)
  .exact absurd (U i p b a1 a2 e).1 (kO.nf j' q b b3 e')
  .exact hm.inj i j p q b a2 b2 e e'
 .rcases look j p hp with⟨i',a1,a2,a3⟩|⟨a1,a2⟩
  .exact kO.lt i' p b a3 e
  .exact Nat.lt_of_lt_of_le (hm.lt j p b a2 e) hs.size
 .rcases look j p hp with⟨i',a1,a2,a3⟩|⟨a1,a2⟩
  .exact kO.nf i' p b a3 e (.inl hF)
  .exact hm.nf j p b a2 e hF
 .exact hm.fb.next (λb hb=>Nat.lt_of_lt_of_le (hm.fb.lt b hb) hs.size) (λ_ h=>h) λt _ hF=>(gp _ (hm.fb.lt _ hF) λi p hp e=>hm.nf i p _ hp e hF).1
 .cases dT:inv i with
  |none=>exact(βn i dT).trans (hn i oG)
  |some i0=>
   rcases Bl i0 i (BS i0 i dT) with⟨a1,a2,a3⟩|⟨a1,a2,a3⟩<;>omega
 .cases dT:inv i with
  |none=>exact(βn i dT).trans hb
  |some i0=>
   have hf:=BS i0 i dT;rw[βs i0 i hf];rcases Bl i0 i hf with⟨a1,a2,a3⟩|⟨a1,a2,a3⟩
   .exact hg i0 a2 (by simp[aZ.via,a1,hb])
   .omega
 .rcases Bl i j hf with⟨a1,_,_⟩|⟨_,_,a3⟩
  .exact .inl a1
  .exact .inr oG
 .have hi:inv j=none:=by
   cases hi:inv j with
   |none=>rfl
   |some i=>
    rcases Bl i j (BS i j hi) with⟨a1,_,_⟩|⟨_,_,a3⟩
    .exact absurd a1 (eD i)
    .omega
  simp[M,hi,aR]
def View.ao3{m':Mem}{nx':Nat}(h:View il n₀ f mc nc m nx)(C:nx<=nx')(he:∀ i j,f i=some j->m' j=m j):View il n₀ f mc nc m' nx':=
 ⟨h.low,Nat.lt_of_lt_of_le h.lt C,h.id,λi hi=>by
  let⟨j,h1,h2,J⟩:=h.Of i hi;exact⟨j,h1,oG,J⟩,h.out,h.inj,λi r hi=>by
  let⟨j,h1,h2⟩:=h.rows i r hi
  exact⟨j,h1,(he i j h1).trans h2⟩⟩
def za(il l:Nat)(n₀:Nat)(o:Obj)(I:Mem->Nat->Prop)(S:Nat->Prop)(m:Mem)(nx:Nat):Prop:=∃ f mc nc,View il n₀ f mc nc m nx/\m il=some (.raw l o)/\I mc nc/\¬ S il/\∀ i j,f i=some j->¬ S j
def za.closed{I:Mem->Nat->Prop}:SI (za il l n₀ o I):=by
 rintro S m nx X m' nx' ⟨f,mc,nc,h1,h2,U,J,M⟩ C he hs;refine⟨f,mc,nc,h1.ao3 C λi j hf=>he j (h1.BR hf).2.1 (M i j hf),(he il h1.lt J).trans h2,U,λe=>?_,λi j hf e=>?_⟩
 .rcases hs il e with h|h
  .exact J h
  .have:=h1.lt;omega
 .rcases hs j e with h|h
  .exact M i j hf h
  .have:=(h1.BR hf).2.1;omega
def ajK(f:Nat->Option Nat)(σ:D->D)(r:Row):(r.ze f).sub σ=r.ze f:=by cases r<;>rfl
def za.Ho{I:Mem->Nat->Prop}:Tt (za il l n₀ o I):=by
 rintro S m nx q σ hq ⟨f,mc,nc,h1,h2,U,C,J⟩;have M:il≠q:=λe=>C (e▸hq);refine⟨f,mc,nc,⟨h1.low,h1.lt,h1.id,h1.Of,h1.out,h1.inj,λi r hi=>?_⟩,?_,U,C,J⟩
 .let⟨j,a1,a2⟩:=h1.rows i r hi;refine⟨j,a1,?_⟩;have hj:j≠q:=λe=>J i j a1 (e▸hq);simp[ai hj,a2,Option.map_some,ajK]
 .simp[ai M,h2,Option.map_some];rfl
def ajL(oq:P.follows .mixedOrders=true):∀ (c:Code) (F:Nat->Prop) (n:Nat) (Y:iu) (N₀:Nat) (β₀:aZ) (w₀:World) (a₀:Act),
 (∀ l args m nx K,Y l args m nx K->ua P F β₀ w₀ l args m nx K)->ke a₀.tmps.size c=true->∀ (Q:Exit->St->Prop) (st:St) (β:aZ) (w:World) (a:Act),
 AX P Y c Q st->dt P F st β w a->rU N₀ β₀ w₀ a₀ st β w a->c.wpIn (Fe none) n P (IZ P F N₀ β₀ w₀ a₀ Q) a w:=by
 intro c
 induction c with
 |seq x y Og Oh=>
  intro F n Y N₀ β₀ w₀ a₀ hY ao Q st β w a h hs cZ;simp only[ke,aJ] at ao;refine wpIn_seq (wpIn_mono (Og F n Y N₀ β₀ w₀ a₀ hY ao.1 _ st β w a h hs cZ) λe a' w' hp=>?_);let⟨st',β',hq,fe,ix⟩:=hp;cases e with
  |normal=>
   let⟨mF,hg,hy⟩:=hq;let⟨mL,Jn,SU⟩:=WX hg fe;exact Oh F n Y N₀ β₀ w₀ a₀ hY ao.2 Q mF mL w' a' hy Jn (ix.since SU)
  |_=>exact⟨st',β',hq,fe,ix⟩
 |block id b ih=>
  intro F n Y N₀ β₀ w₀ a₀ hY ao Q st β w a h hs cZ;refine wpIn_block (wpIn_mono (ih F n Y N₀ β₀ w₀ a₀ hY ao _ st β w a h hs cZ) λe a' w' hp=>?_);let⟨st',β',hq,fe,ix⟩:=hp;cases e with
  |exit i=>
   simp only[kf] at hq;simp only[Exit.inBlock];split at hq
   .rename_i hi;rw[bi hi];exact⟨st',β',hq,fe,ix⟩
   .rename_i hi;rw[ai hi];exact⟨st',β',hq,fe,ix⟩
  |_=>exact⟨st',β',hq,fe,ix⟩
 |rangeFunc g ps assign body Ci Cj=>
  intro F n Y N₀ β₀ w₀ a₀ hY ao Q st β w a h hs cZ;let⟨env,mem,nx⟩:=st;let⟨NG,f,fs,cs,xs,I,Nd,NH,Nf,Oj,FI,yZ⟩:=h;simp only at NG Nd Oj FI yZ;simp only[ke,aJ,bK,Nat.blt_eq] at ao;let⟨rV,TP,TQ⟩:=ao;have cC:a.tmps.size=a₀.tmps.size:=cZ.size;have hR:=(hs.e.opd g).Bk _ NG;simp only[Nd] at hR;refine wpIn_rangeFunc λfn uA=>?_;obtain⟨C,At⟩:∃ C:LoopState->Option Code->Loop,C=λst pe=>{ state:=st,pending:=pe,fn,tmps:=a.tmps,params:=ps,assign,body,defers:=w.heap.size }:=⟨_,rfl⟩
  obtain⟨X,uD⟩:∃ X,(w.alloc (.deferred (some []))).alloc (.loop (C .ready none))=X:=⟨_,rfl⟩
  let⟨us,vs,d,JW,wj,hu,hv,qJ,hinv⟩:=WK (P:=P) hR NH.1 (w.heap.size+1) X;have hn:∀ i,nx<=i->β i=none:=hs.n;have UY:∀ t∈BQ,t.1≠w.heap.size+1:=λt ht e=>by have:=hs.m.fb.lt _ (hs.m.fb.nR t ht).1;omega
  have UX:¬ F (w.heap.size+1):=λe=>by have:=hs.m.fb.lt _ e;omega
  let f₀:Nat->Option Nat:=λi=>if i<nx then some i else none
  have ady:β.via f₀=β:=by
   funext i;simp only[aZ.via,f₀];split
   .rfl
   .exact(hn i oG).symm
  have p8:bc P F (λi=>(mem i).map (Row.ze f₀)) β w:=⟨λi r hi=>by
   simp only[ej] at hi;obtain⟨r0,h1,rfl⟩:=hi;let⟨p,hp,hr⟩:=hs.m.row i r0 h1
   exact⟨p,hp,dG.adx (F':=F) (by rw[ady];exact hr) (λ_ h=>h) λb g1 g2=>absurd (ady▸g2) g1⟩,hs.m.inj,hs.m.lt,hs.m.nf,hs.m.fb⟩
  have zu:Step β w β (w.alloc (.deferred (some []))):=Ff oS λb hb=>heap_alloc_old w _ hb;have mN:bc P F (λi=>(mem i).map (Row.ze f₀)) β (w.alloc (.deferred (some []))):=p8.ext oS λb hb=>heap_alloc_old w _ hb
  have uE:bc P F (up (λi=>(mem i).map (Row.ze f₀)) nx (some (.raw (w.heap.size+1) (.loop (C .ready none))))) (up β nx (some (.raw (w.heap.size+1)))) X:=by
   rw[<- uD];refine mN.alloc (hn nx (bY _)) _ _ _ (λb hb=>by simp only[Pl.cn,bg] at hb;simp;omega) (.raw _ _ ?_);have:=World.alloc_heap_new (w.alloc (.deferred (some []))) (.loop (C .ready none))
   rwa[World.size_alloc] at this
  have jR:Step β w (up β nx (some (.raw (w.heap.size+1)))) X:=by
   rw[<- uD];exact zu.trans (EW mN _ (hn nx (bY _)) _ (λb hb=>by simp only[Pl.cn,bg] at hb;simp;omega))
  have UZ:X.heap[w.heap.size]? =some (.deferred (some [])):=by
   rw[<- uD];rw[heap_alloc_old _ _ oS];exact World.alloc_heap_new w _
  have ID:aZ.free (up β nx (some (.raw (w.heap.size+1)))) w.heap.size:=
   wD (λi p hp e=>by have:=hs.m.lt i p _ hp e;omega) (by rintro q hq;cases hq;simp[Pl.cn])
  have atN:X.heap.size=w.heap.size+2:=by rw[<- uD];simp
  have am4:∀ i,nx<=i->mem i=none:=λi hi=>by
   cases hm:mem i with
   |none=>rfl
   |some row=>
    let⟨p,hp,_⟩:=hs.m.row i row hm;rw[hn i hi] at hp;cases hp
  have own:∀ {f:Nat->Option Nat} {mc:Mem} {nc:Nat} {m:Mem} {iK:Nat} {M:aZ} {w2:World},View nx nx f mc nc m iK->Step (up β nx (some (.raw (w.heap.size+1)))) X M w2->
   ∀ {d:D} {v:Value},R F β w d v->R (hidden F M f) (M.via f) w2 d v:=λ{_ _ _ _ _ _ _} J cx {d v} h=>by
   have xr:=jR.trans cx;refine h.gen xr.size (λb hb hf qB=>?_) λi p _ hp=>?_
   .let⟨g1,g2⟩:=xr.gp b hb qB;exact⟨CT g1,aZ.Bg g2 _,λe=>e.elim hf λe=>e.1 g2⟩
   .have hi:i<nx:=by
     rcases Nat.lt_or_ge i nx with h1|h1
     .exact h1
     .rw[hn i h1] at hp;cases hp
    simp only[aZ.via,J.id i hi,Option.bind_some];exact xr.kp i p hp
  refine⟨w.heap.size+1,[mark w.heap.size],X,d,X,f,_,X,?_,qJ,λU _=>trivial,hinv,λhd=>by simp at hd,Ll ?_⟩
  .rw[<- uD,At];exact run_enterLoop_outer _ _ _ _ _
  refine(NH.2 F (w.heap.size+1) (λk S=>za nx (w.heap.size+1) nx (.loop (C .ready none)) (I k) S) (λm k=>∃ c,FH nx (w.heap.size+1) nx (.loop (C .done (some c))) (Jump env Q c) m k)
   (up (λi=>(mem i).map (Row.ze f₀)) nx (some (.raw (w.heap.size+1) (.loop (C .ready none))))) (nx+1) (up β nx (some (.raw (w.heap.size+1)))) X _ (λk=>za.closed) (λk=>za.Ho) ?_ uE ?_ ?_ ?_ ?_).mono ?_
  .rintro m k m' k' ⟨c,hc⟩ hle he;exact⟨c,FH.closed m k m' k' hc hle he⟩
  .intro i hi;rw[aV _ _ (show i≠nx by omega)];exact hn i oG
  .refine Rs.append (Rs.append ?_ ?_) ?_
   .exact⟨by simp[JW],λk d v hd hv=>(hu k d v hd (s0 hv)).step jR⟩
   .refine⟨rfl,λk d v hd hv=>?_⟩;cases k with
    |zero=>
     simp only[getElem?_cons_zero,bg] at hd;simp only[getElem?_toArray,getElem?_cons_zero,bg] at hv;subst hd;subst hv;exact .fn _ [] [] [] [] rfl rfl oS oS
    |succ k=>simp at hd
   .exact⟨by simp[wj],λk d v hd Ec=>(hv k d v hd (s0 Ec)).step jR⟩
  .rintro k x S m k' hx aeP ⟨g,mc,nc,J,gh,XH,aeQ,hSg⟩ M w2 AI Gs oI AJ AK;let⟨HP,BD,_,TR⟩:=oI.F3 gh;have TS:AI.size=ps.size:=by rw[AK.1];exact(Nf x (bD hx)).1
   have hy:=run_yield (P:=P) (args:=AI) BD (by rw[At];exact TS);simp only[At,X2] at hy;refine⟨fn,_,assign,body,hy,λn'=>?_⟩;let⟨U0,lO⟩:=J.enter oI;have JX:hidden F M g (w.heap.size+1):=(J.LK oI (λi e=>(J.BR e).2.2 rfl) HP rfl).2;have abf:(M.via g).free (w.heap.size+1):=(J.LK oI (λi e=>(J.BR e).2.2 rfl) HP rfl).1;have U1:jd (hidden F M g) (M.via g) w2 env { tmps:=a.tmps,defers:=[] }:=λt=>own J Gs (hs.e t)
   let⟨U2,Jo⟩:=PT ps.toList x AI.toList env a.tmps (by simp[AK.1]) (λj d v hd hv=>
    ((Nf x (bD hx)).2 d (bD hd) F M w2 v (AK.2 j d v hd (s0 hv))).gen (bY _)
     (λb _ hb _=>⟨sS.refl _ b,aZ.Bg (HJ hb).2 _,λe=>e.elim (HJ hb).1 λe=>e.1 (HJ hb).2⟩) (λi p _ hp=>by cases hp)) (λt ht=>by rw[cC];exact rV t ht) U1
   have TT:=akQ oq assign (hidden F M g) (some (w.heap.size+1)) n' iV false nc (M.via g) w2
    { tmps:=(ps.toList.zip AI.toList).foldl (λtmps (t,a)=>tmps.setIfInBounds t a) a.tmps,defers:=[] } oS (λ_ _ _ _ _ h=>h.elim) (by show ke (Array.size _) assign=true;rw[Jo,cC];exact TP) _ ⟨z6 env ps.toList x,mc,nc⟩ (M.via g) w2 _
    (FI k mc nc x hx XH) ⟨U2,U0,lO⟩ (fW.refl ⟨z6 env ps.toList x,mc,nc⟩ _ _ _).Eb
   refine roundIn_of_wpIn aa (wpIn_mono TT λe a3 w3 hp=>?_);let⟨mM,β3,Ol,wk,jS⟩:=hp;cases e with
   |normal=>
    have SV:w.heap.size+1<w3.heap.size:=Nat.lt_of_lt_of_le TR jS.step.size;have apw:w3.heap[w.heap.size+1]? =some (.loop (C .ready none)):=(jS.step.gp _ TR abf).1.trans BD;refine⟨_,run_beginRound apw (by rw[At]),?_⟩;have atO:=wk.zd (l:=w.heap.size+1) JX UY (.loop { C .ready none with state:=.busy });have SW:=akQ oq body (hidden F M g) (some (w.heap.size+1)) n' iV false mM.nx β3 _ a3 oS (λ_ _ _ _ _ h=>h.elim) (by rw[jS.size];show ke (Array.size _) body=true;rw[Jo,cC];exact TQ) _ mM β3 _ a3 Ol atO (fW.refl mM _ _ _).Eb;refine wpIn_mono SW λe a4 w4 Ye=>?_;let⟨Ia,β4,Om,Ig,G3⟩:=Ye;have apx:w.heap.size+1<w4.heap.size:=Nat.lt_of_lt_of_le (s0 SV) G3.step.size
    have apy:w4.heap[w.heap.size+1]? =some (.loop { C .ready none with state:=.busy }):=
     (G3.step.gp _ (s0 SV) (jS.step.gp _ TR abf).2).1.trans (World.putObj_heap_same SV)
    have fin:∀ (jump:Option Code) (K:D->Mem->Nat->Prop),(∀ U oF vN,View nx nx U Ia.mem Ia.nx oF vN->oF nx=some (.raw (w.heap.size+1) (.loop (C (if jump.isNone then .ready else .done) jump)))->k'<=vN->(∀ i,S i->oF i=m i)->(∀ i j,U i=some j->¬ S j)->K (.s (.bool jump.isNone)) oF vN)->
     ∃ v w',(Instr.endRound (w.heap.size+1) jump).run P w4=.ok v w'/\∃ v' d m' nx' β',Ending.returned v=.returned v'/\K d m' nx'/\bc P F m' β' w'/\(∀ i,nx'<=i->β' i=none)/\R F β' w' d v'/\Step M w2 β' w'/\k'<=nx'/\∀ i,i<k'->M i=none->β' i=none:=λjump K hK=>by
     have fm:=run_endRound (P:=P) jump apy;have e1:∀ s p,({ ({ C .ready none with state:=.busy }:Loop) with state:=s,pending:=p }:Loop)=C s p:=λs p=>by rw[At]
     rw[e1] at fm
     let⟨U,oF,vN,mL,v1,v2,v3,v4,v5,v6,v7,v8,v9⟩:=J.al8 oI AJ gh (o':=.loop (C (if jump.isNone then .ready else .done) jump)) (Ig.m.zd JX UY _)
      (((jS.step.x _).trans (yY.put _ β3 w3 _)).trans ((G3.step.x _).trans (yY.put _ β4 w4 _))) Ig.n (Nat.le_trans jS.le G3.le) (λi hi hb=>G3.grow i (Nat.lt_of_lt_of_le hi jS.le) (jS.grow i hi hb)) (World.putObj_heap_same apx)
     exact⟨_,_,fm,.bool jump.isNone,_,oF,vN,mL,rfl,hK U oF vN v1 v2 v6 (λi hi=>v9 i (aeP i hi) (λe=>aeQ (e▸hi)) λj hj=>hSg j i hj hi) (λi j hf hj=>(v8 i j hf).elim (λh=>hSg i j h hj) λh=>by have:=aeP j hj;omega),v3,v4,.s _ rfl,v5,v6,v7⟩
    cases e with
    |normal=>exact fin none _ λU oF vN v1 v2 v6 v8 v9=>⟨.inl ⟨rfl,U,_,_,v1,v2,Om,aeQ,v9⟩,v6,v8⟩
    |ret=>exact fin (some .ret) _ λU oF vN v1 v2 v6 v8 _=>⟨.inr ⟨rfl,.ret,U,_,_,v1,v2,Om⟩,v6,v8⟩
    |exit id=>exact fin (some (.exit id)) _ λU oF vN v1 v2 v6 v8 _=>⟨.inr ⟨rfl,.exit id,U,_,_,v1,v2,Om⟩,v6,v8⟩
    |_=>exact Om.elim
   |_=>exact Ol.elim
  .refine⟨f₀,mem,nx,⟨bY _,oG,λi hi=>by simp[f₀,hi],λi hi=>⟨i,by simp[f₀,hi],oG,oG⟩,λi hi=>by simp[f₀,Nat.not_lt.2 hi],λi i' j h1 h2=>?_,λi r hi=>?_⟩,aw _ _ _,Oj,id,λ_ _ _=>id⟩
   .simp only[f₀,Option.ite_none_right_eq_some,bg] at h1 h2;omega
   .have ao:i<nx:=by
     rcases Nat.lt_or_ge i nx with h1|h1
     .exact h1
     .rw[am4 i h1] at hi;cases hi
    exact⟨i,by simp[f₀,ao],by rw[aV _ _ (show i≠nx by omega),hi];rfl⟩
  .rintro e w6 ⟨v,d6,m6,G4,β6,rfl,adz,xI,Yf,_,qK,adA,TU⟩
   have fin:∀ {g:Nat->Option Nat} {mc:Mem} {nc:Nat} (o':Obj),View nx nx g mc nc m6 G4->
    dt P F ⟨env,mc,nc⟩ (β6.via g) (w6.putObj (w.heap.size+1) o') { a with defers:=[mark w.heap.size]++a.defers }/\
    rU N₀ β₀ w₀ a₀ ⟨env,mc,nc⟩ (β6.via g) (w6.putObj (w.heap.size+1) o') { a with defers:=[mark w.heap.size]++a.defers }:=λ{g mc nc} o' J=>by
    let⟨U0,lO⟩:=J.enter xI
    have JX:hidden F β6 g (w.heap.size+1):=by
     have hβ:β6 nx=some (.raw (w.heap.size+1))\/β6 nx=some .dead:=qK.kp nx _ r9;rcases hβ with hβ|hβ
     .exact(J.LK xI (λi e=>(J.BR e).2.2 rfl) hβ rfl).2
     .exfalso;rcases adz with⟨_,U,Yg,uC,_,TV,_,_⟩|⟨c,U,Yg,uC,_,TV,_⟩
      .rw[(xI.F3 TV).1] at hβ;cases hβ
      .rw[(xI.F3 TV).1] at hβ;cases hβ
    refine⟨⟨λt=>((own J qK (hs.e t)).zd JX o').xq λb hb=>.inl hb,(U0.zd JX UY o').xq (λb hb=>.inl hb) λt ht=>(hs.m.fb.nR t ht).1,lO⟩,cZ.trans ⟨⟨?_,λb hb hf=>?_,λi p hp=>?_,(jR.out.trans qK.out).trans ⟨rfl,rfl⟩,λi r hp lu=>?_⟩,J.low,λi hi hb=>?_,rfl,[mark w.heap.size],rfl,?_⟩⟩
    .have:=qK.size;simp;omega
    .let⟨g1,g2⟩:=jR.gp b hb hf;let⟨g3,g4⟩:=qK.gp b oG g2;exact⟨(World.putObj_heap_other oG).trans (g3.trans g1),aZ.Bg g4 _⟩
    .have hi:i<nx:=by
      rcases Nat.lt_or_ge i nx with h1|h1
      .exact h1
      .rw[hn i h1] at hp;cases hp
     simp only[aZ.via,J.id i hi,Option.bind_some];exact(jR.trans qK).kp i p hp
    .have hi:i<nx:=by
      rcases Nat.lt_or_ge i nx with h1|h1
      .exact h1
      .rw[hn i h1] at hp;cases hp
     simp only[aZ.via,J.id i hi,Option.bind_some] at lu;have:=hs.m.lt i _ r hp rfl;exact((jR.trans qK).lp i r hp lu).trans (sx (World.putObj_heap_other oG))
    .have hi:i<nx:=hi;simp only[aZ.via,J.id i hi,Option.bind_some];exact TU i oG (by rw[aV _ _ oG];exact hb)
    .refine⟨w.heap.size,rfl,bY _,?_,?_,?_,aa⟩
     .have:=qK.size;simp;omega
     .exact(World.putObj_heap_other oG).trans ((qK.gp _ oG ID).1.trans UZ)
     .exact aZ.Bg (qK.gp _ oG ID).2 _
   rcases adz with⟨_,g,mc,nc,J,gh,hI,_⟩|⟨c,g,mc,nc,J,gh,hj⟩
   .have fm:(Instr.endLoop (w.heap.size+1)).run P w6=.ok none (w6.putObj (w.heap.size+1) (.loop (C .exhausted none))):=by
     have:=run_endLoop (P:=P) (xI.F3 gh).2.1 (by rw[At];simp);rw[At] at this ⊢;exact this
    let⟨g1,g2⟩:=fin (.loop (C .exhausted none)) J;exact⟨none,_,fm,⟨env,mc,nc⟩,_,yZ mc nc hI,g1,g2⟩
   .have fm:(Instr.endLoop (w.heap.size+1)).run P w6=.ok (some c) (w6.putObj (w.heap.size+1) (.loop (C .exhausted (some c)))):=by
     have:=run_endLoop (P:=P) (xI.F3 gh).2.1 (by rw[At];simp);rw[At] at this ⊢;exact this
    let⟨g1,g2⟩:=fin (.loop (C .exhausted (some c))) J;refine⟨some c,_,fm,?_⟩;cases c with
    |ret=>exact wpIn_ret ⟨⟨env,mc,nc⟩,_,hj,g1,g2⟩
    |exit id=>exact wpIn_exit ⟨⟨env,mc,nc⟩,_,hj,g1,g2⟩
    |_=>exact hj.elim
 |_=>exact λF n Y N₀ β₀ w₀ a₀ hY ao Q st β w a h hs cZ=>akQ oq _ F none n Y true N₀ β₀ w₀ a₀ (λ_=>rfl) hY ao Q st β w a h hs cZ
def ajM(oq:P.follows .mixedOrders=true){Y:iu}{f:FuncId}(hf:P.funcs[f]? =some fn)(hb:fn.body=some c)(ao:ke fn.ntmps c=true)(hn:Nat.ble args.length fn.ntmps=true){K:D->St->Prop}
 (h:AX P Y c (pb P fn.results.toList K) ⟨pN args,m,nx⟩) {β:aZ} {w:World} {vs:Array Value} (hY:∀ l args m nx K,Y l args m nx K->ua P F β w l args m nx K) (hm:bc P F m β w) (dA:∀ i,nx<=i->β i=none) (hR:Rs F β w args vs):
 Calls P f vs w λe w'=>∃ v d st' β',e=.returned v/\K d st'/\R F β' w' d v/\bc P F st'.mem β' w'/\(∀ i,st'.nx<=i->β' i=none)/\Step β w β' w'/\nx<=st'.nx/\∀ i,i<nx->β i=none->β' i=none:=by
 have hle:args.length<=fn.ntmps:=s0 hn
 refine(callsIn_wide (n:=0)).1 (callsIn_of_wp_marks hf hb aa ?_)
 have cC:(vs++Array.replicate (fn.ntmps - vs.size) undef).size=fn.ntmps:=by
  simp[Array.size_append,Array.size_replicate,hR.1];omega
 let a₀:Act:={ tmps:=vs++Array.replicate (fn.ntmps - vs.size) undef,defers:=[] }
 have hE:jd F β w (pN args) a₀:=λt=>by
  unfold pN;rcases Nat.lt_or_ge t args.length with ao|bt
  .have h1:args.getD t .u=args[t]:=by simp[ao]
   have h2:a₀.tmps.getD t undef=vs[t]'(by rw[hR.1];exact ao):=by
    show(vs++Array.replicate (fn.ntmps - vs.size) undef).getD t undef=_;have U:t<vs.size:=by rw[hR.1];exact ao
    simp[Array.getD_eq_getD_getElem?,Array.getElem?_append_left U,U]
   rw[h1,h2];exact hR.2 t _ _ (by simp[ao]) (by simp[hR.1,ao])
  .have h1:args.getD t .u=.u:=by simp[bt]
   rw[h1];exact .u _
 have:=ajL oq c F 0 Y nx β w a₀ hY (by show ke (vs++Array.replicate (fn.ntmps - vs.size) undef).size c=true;rw[cC];exact ao) _ ⟨pN args,m,nx⟩ β w a₀ h ⟨hE,hm,dA⟩ (fW.refl ⟨pN args,m,nx⟩ β w a₀).Eb;refine wpIn_mono this λe a' w' hp=>?_;let⟨st',β',hq,fe,C⟩:=hp
 have X:(uo P st' fn.results.toList [] λds=>K (Av ds) st')->LeavesInM (Fe none) 0 P fn a'.tmps (λe w'=>∃ v d st' β',e=.returned v/\K d st'/\R F β' w' d v/\bc P F st'.mem β' w'/\(∀ i,st'.nx<=i->β' i=none)/\Step β w β' w'/\nx<=st'.nx/\∀ i,i<nx->β i=none->β' i=none) a'.defers .returning w':=λhq=>by
  let⟨ds,h1,h2⟩:=C.defers;rw[h1,show a₀.defers=[] from rfl,append_nil];refine WQ oS ds _ w' h2 fe C.step λEi J M=>?_;let⟨v,d,g1,g2,g3⟩:=WY (K:=λd=>K d st') J hq;exact⟨v,g1,v,d,st',β',rfl,g2,g3,J.m,J.n,M,C.le,C.grow⟩
 cases e with
 |normal=>exact X hq
 |ret=>exact X hq
 |_=>exact hq.elim
def ajN(U:P.follows .mixedOrders=true){f:FuncId}(hf:Aw P f fn c)(hn:Nat.ble args.length fn.ntmps=true)(ht:∀ a∈args,Tr a){r:D}(hr:Tr r)
 (h:AX P iV c (pb P fn.results.toList λd _=>d=r) ⟨pN args,λ_=>none,0⟩):aH P f args r:=
 ⟨hf.he,ht,λF w vs M hR=>(ajM U hf.hf hf.hb hf.ao hn h (λ_ _ _ _ _ h=>h.elim) (K6 M) (λ_ _=>rfl) hR).mono λe w' hp=>by
  obtain⟨v,d,st',β',h1,rfl,C,X,h5,J,h7,h8⟩:=hp
  exact⟨v,h1,hr.S7 C,PE J⟩⟩
end
end
end Go.Abs
section
open Go Go.Proofs List
namespace Go.Abs
open Go.Proofs.Tryz
def aq(x:PW):List D:=[I x.1.1,I x.1.2,aU (a7 x.2)]
@[simp] theorem Rn (x : PW) : (aq x).length = 3 := rfl
def BM:∀ l:List PW,(l.flatMap aq).length=l.length*3
 |[]=>rfl
 |x::l=>by rw[flatMap_cons,length_append,BM l,Rn,length_cons];omega
def Ja(pre O:List PW):((pre++O).flatMap aq).drop (pre.length*3)=O.flatMap aq:=by
 rw[flatMap_append, <- BM pre,drop_left]
def GG{X:Nat->Prop}(x:PW):∀ d∈aq x,jG X d:=λd hd=>by
 simp[aq,mem_cons,not_mem_nil,or_false] at hd;rcases hd with rfl|rfl|rfl<;>first|exact .s _|exact .sl _ _
def nK(p:Nat×Nat):Value:=.agg #[.int .i64 p.1,.int .i64 p.2]
def jM(S:List (Nat×Nat)):List (Value×D):=S.map λp=>(nK p,B true)
def R9{X:Nat->Prop}(S:List (Nat×Nat)):sP X (.map (jM S)):=λi cs sz _=>by
 simp[Row.sub,jM,sub,xm,dq]
def Hr(x:PW):List D:=[.agg [I x.1.1,I x.1.2],aU (a7 x.2)]
def abU{P:Program}{env:Env}{m:Mem}{nx:Nat}{t:TypeId}{x y:Operand}{k:IntKind}{j off l sz:Nat}{e:TypeId}{r:Row}(hx:(opd env x).core=.rs j off l)(hy:(opd env y).core=.s (.int k 0))(hm:m j=some r)(he:aT P t=e)(hs:P.cellsOf e=sz):
 Ef P (.indexAddr t x y) env m nx ⟨bH P t=true/\0<l,.rp j off,[],[j],0⟩:=by
 have h:=MM (P:=P) (env:=env) (m:=m) (nx:=nx) (t:=t) hx hy hm he hs;have h1:off+(0:Int).toNat*sz=off:=by simp
 have h2:(bH P t=true/\(0:Int)<=0/\(0:Int)<l)=(bH P t=true/\0<l):=by
  simp
 rw[h1,h2] at h;exact h
section
def anK:Ds prog 121=some [0,0]:=kr
def anL:prog.eqGuardType prog.depth 121=false:=kr
def anM:rF prog (qL prog 172)=B false:=kr
def alR(C J a b:Nat):lf [.int .i64 C,.int .i64 J] [.int .i64 a,.int .i64 b]=decide ((C,J)=(a,b)):=by
 rw[Bool.eq_iff_iff];simp[lf,xu];omega
def alS{P:Program}{d:Nat}{fs:List Field}{cs:List Value}{G:Nat×Nat->Option (List Lit)}{ts:List (Nat×Nat)}(h:fs.map (λf=>(f.type,f.offset))=ts)(C:∀ t o,G (t,o)=P.keyLits d t ((cs.drop o).take (P.cellsOf t))):
 fs.mapM (λf=>P.keyLits d f.type ((cs.drop f.offset).take (P.cellsOf f.type)))=ts.mapM G:=by
 rw[<- h,List.mapM_map];congr 1;funext f;exact(C _ _).symm
def aeS(d:Nat){a:Int}(h: -9223372036854775808<=a/\a<=9223372036854775807):prog.keyLits (d+1) 3 [.int .i64 a]=some [.int .i64 a]:=by
 have u3:prog.underlying 3=some (.int .i64):=kr
 have J:(Lit.int .i64 a).wf=true:=by
  have C:IntKind.i64.min= -9223372036854775808:=kr;have e2:IntKind.i64.max=9223372036854775807:=kr;simp[Lit.wf,C,e2,h]
 simp[Program.keyLits,u3,J,and_self,if_true]
def aef:∃ fs:Array Field,prog.underlying 121=some (.struct fs)/\prog.cellsOf 121=2/\fs.all (·.name !="_")=true/\fs.toList.map (λf=>(f.type,f.offset))=[(3,0),(3,1)]:=
 ⟨match prog.underlying 121 with|some (.struct fs)=>fs|_=> #[],by kernel_rfl,by kernel_rfl,by kernel_rfl,by kernel_rfl⟩
def anQ(d:Nat){a b:Int}(h: -9223372036854775808<=a/\a<=9223372036854775807)(h': -9223372036854775808<=b/\b<=9223372036854775807):prog.keyLits (d+2) 121 [.int .i64 a,.int .i64 b]=some [.int .i64 a,.int .i64 b]:=by
 let⟨fs,hu,hc,hn,hf⟩:=aef;have c3:prog.cellsOf 3=1:=kr;unfold Program.keyLits;simp only[hu];rw[bi ⟨by rw[hc];rfl,hn⟩,alS (G:=λp=>prog.keyLits (d+1) p.1 (([.int .i64 a,.int .i64 b].drop p.2).take (prog.cellsOf p.1))) hf λ_ _=>by dsimp only];simp[c3,aeS d h,aeS d h']
def apn:∃ d,prog.types.size+1=d+2:=⟨prog.types.size - 1,by
 have:Nat.ble 1 prog.types.size=true:=kr;have:=bL this
 omega⟩
def VN(p:Nat×Nat)(h:p.1<=1000000/\p.2<=1000000):ew prog 121 (nK p)=true:=by
 let⟨fs,hu,hc,_,_⟩:=aef;have hk:prog.keyType 121=true:=kr;let⟨d,hd⟩:=apn;simp only[ew,nK,hu,keyOf,hk,Value.formed,hc,hd];have:=anQ d (a:=p.1) (b:=p.2) oG oG;simp[Value.cells,this]
def aej{S:List (Nat×Nat)}(h:∀ p∈S,p.1<=1000000/\p.2<=1000000):(jM S).all (λe=>ew prog 121 e.1)=true:=by
 refine bK.2 λe he=>?_;obtain⟨x,hx,rfl⟩:=mem_map.1 he;exact VN x (h x hx)
def alU(p q:Nat×Nat):tk (nK p) (nK q)=decide (p=q):=by
 rw[Bool.eq_iff_iff];simp[nK,tk,lf,xu,Prod.ext_iff];omega
def VO(q:Nat×Nat):∀ S:List (Nat×Nat),(fF (nK q) (jM S)).map (·.2)=if q∈S then some (B true) else none
 |[]=>rfl
 |p::S=>by
  have ih:=VO q S;have C:jM (p::S)=(nK p,B true)::jM S:=rfl;rw[C];simp[fF];rw[alU];by_cases h:p=q
  .subst h;simp
  .have h':¬ q=p:=λe=>h e.symm;simp[decide_eq_false h,Bool.false_eq_true,if_false,Option.map_map,mem_cons,h',false_or];rw[<- ih];rfl
def anS(q:Nat×Nat)(S:List (Nat×Nat)):lg prog 172 false (fF (nK q) (jM S))=B (decide (q∈S)):=by
 have h:=VO q S;by_cases hq:q∈S
 .rw[bi hq] at h;cases hl:fF (nK q) (jM S) with
  |none=>rw[hl] at h;cases h
  |some x=>
   rw[hl] at h;simp[Option.map_some,bg] at h;rw[decide_eq_true hq];simp[lg,h]
 .rw[ai hq] at h;cases hl:fF (nK q) (jM S) with
  |none=>rw[decide_eq_false hq];simp[lg,anM]
  |some x=>rw[hl] at h;cases h
def anT{q:Nat×Nat}{S:List (Nat×Nat)}(h:q∉S):mG (nK q) (B true) (jM S)=jM (S++[q]):=by
 have h1:=VO q S;rw[ai h] at h1;unfold mG;cases hl:fF (nK q) (jM S) with
 |none=>simp[jM]
 |some x=>rw[hl] at h1;cases h1
def Yi{l:List az}{sh:List ByteArray}{ca:List (List Int)}{a b:Int}:aH prog 71 [.agg (jq l sh ca),.agg [I a,I b]] (.fn (.func 114) [] [.pt [I a,I b],.pt (jq l sh ca)]):=by
 have t1:∀ d∈[I a,I b],Tr d:=.cons (.s _) fp;have t2:=Q6 l sh ca;refine bx (fo f71) (.cons (.agg t2) (.cons (.agg t1) .nil)) (.fn oS (.cons (.pt t1) (.cons (.pt t2) .nil))) ?_;refine aA (di (yM (cs:=jq l sh ca) rfl) aM (by first|rfl|exact zO iE cK|exact s9 _|exact Al dN) (di (yM (cs:=[I a,I b]) rfl) aM (by first|rfl|exact zO iE cK|exact s9 _|exact Al dN) (aI (fR (v:=.s .nilFunc) rfl) ak aa (af (br (cH [(0,jq l sh ca,82),(1,[I a,I b],121)] eH (l:=[(2,.pt (jq l sh ca)),(3,.pt [I a,I b])]) eH) (al ?_))))));refine SS ?_;exact aI (fR (v:=.fn _ _ _) rfl) ak aa (af (aC rfl rfl))
structure WS where
 k:Nat
 S:Nat->Prop
 m:Mem
 nx:Nat
 j:Nat
 pre:List PW
 seen:List (Nat×Nat)
 O:List PW
structure WI(I':(Nat->Prop)->Mem->Nat->Prop)(r:Nat)(s:WS):Prop where
 inv:I' s.S s.m s.nx
 slt:∀ i,s.S i->i<s.nx
 sr:s.S r
 sj:s.S s.j
 ne:s.j≠r
 ayy:s.m r=some (.map (jM s.seen))
 ayz:s.m s.j=some (.cells ((s.pre++s.O).flatMap aq) 174)
structure WP(sn:List Nat)(ca:List (List Nat))(fr:Nat×Nat)(wsq:List PW)(k:Nat)(seen:List (Nat×Nat))(O pre:List PW):Prop where
 go:∃ Y f,wsq=Y++pR sn ca fr f (seen,O)/\Y.length=k/\BI sn ca fr Y seen O/\ca.length*ca.length<f+k
 len:∀ y∈O,y.2.length<=seen.length
 pre:pre.length<=k
variable{sn:List Nat}{ca:List (List Nat)}{fr:Nat×Nat}{wsq:List PW}{x:PW}
def WP.next{k:Nat}{seen M:List (Nat×Nat)}{O J pre C:List PW}(ao:∀ w p,mZ sn ca fr w p->p.1<ca.length/\p.2<ca.length)(h:WP sn ca fr wsq k seen (x::O) pre)
 (hn:rE sn ca fr (seen,x::O)=(M,J)) (hl:∀ y∈J,y.2.length<=M.length) (hp:C.length<=k+1):WP sn ca fr wsq (k+1) M J C/\wsq[k]? =some x:=by
 let⟨⟨Y,f,h1,h2,U,h4⟩,_,_⟩:=h;have:=CW U ao;simp[length_cons] at this;obtain⟨f,rfl⟩:∃ g,f=g+1:=⟨f - 1,oG⟩
 have e:pR sn ca fr (f+1) (seen,x::O)=x::pR sn ca fr f (rE sn ca fr (seen,x::O)):=rfl;have X:=UA U;rw[e,hn] at h1;rw[hn] at X;refine⟨⟨⟨Y++[x],f,by rw[h1];simp,by simp[h2],X,oG⟩,hl,hp⟩,?_⟩;rw[h1, <- h2,getElem?_append_right (bY _)];simp
def WP.end{k:Nat}{seen:List (Nat×Nat)}{pre:List PW}(h:WP sn ca fr wsq k seen [] pre):wsq.length=k:=by
 let⟨⟨Y,f,h1,h2,C,J⟩,_,_⟩:=h;rw[h1];cases f<;>simp[pR,h2]
def aba{p:Nat×Nat}{S:List (Nat×Nat)}{O:List PW}{k:Nat}(hp:gn ca x.1 k=p)(h:¬ (p≠fr/\p∉S)):sk ca fr x (S,O) k=(S,O):=by
 rw[sk,hp,ai h]
def ajt{p:Nat×Nat}{S:List (Nat×Nat)}{O:List PW}{k:Nat}(hp:gn ca x.1 k=p)(h1:p≠fr)(h2:p∉S):sk ca fr x (S,O) k=(S++[p],O++[(p,x.2++[k])]):=by
 rw[sk,hp,bi ⟨h1,h2⟩]
def wSt(l:Nat)(fl:List az)(sh:List ByteArray)(ca:List (List Nat))(a b r:Nat)(s:WS):St:=
 ⟨aD [(0,.fn (.yield l) [] []),(1,.pt [I a,I b]),(2,.pt (jq fl sh (ca.map a7))),(4,.mp r),(5,.rs s.j (s.pre.length*3) s.O.length)],s.m,s.nx⟩
def apr{fl:List az}{sh:List ByteArray}{ca:List (List Nat)}{a b:Nat}(tu:sh.length=ca.length)(hN:ca.length<=1000)(fI:JD ca)(hlen:adw (bT sh) ca)(ha:a<ca.length)(hb:b<ca.length)(dB:∀ x∈ca,x.length<=100000):
 NZ prog 114 [] [.pt [I a,I b],.pt (jq fl sh (ca.map a7))] ((p0 (bT sh) ca a b).map Hr):=by
 refine alQ mixed (fo f114) kr λl I' Stop m nx hI hF aco h0=>?_;refine ws ?_;refine ag ?_;refine af (aA ?_);refine aQ ?_;generalize nQ:bT sh=sn at*
 have ao:∀ w p,mZ sn ca (a,b) w p->p.1<ca.length/\p.2<ca.length:=λw p=>Kq fI hlen ha hb;refine af ?_;have lK:aU (a7 [])=.sl [] 0:=rfl
 refine(cT (α:=WS) (wSt l fl sh ca a b nx)
  (λs=>WI (I' s.k) nx s/\WP sn ca (a,b) (p0 sn ca a b) s.k s.seen s.O s.pre) (λs=>(p0 sn ca a b).length - s.k) ⟨0,λi=>i=nx\/i=nx+1,up (up m nx (some (.map []))) (nx+1) (some (.cells (aq ((a,b),[])) 174)),nx+2,nx+1,[],[],[((a,b),[])]⟩
  ((au (l:=[(0,.fn (.yield l) [] []),(1,.pt [I a,I b]),(2,.pt (jq fl sh (ca.map a7))),(4,.mp nx),(5,.rs (nx+1) 0 1)]) eH).trans (.xq _ _ _ _ _ (λ_ _ _ _ _ h=>h) λi=>?_))
  ⟨⟨hI 0 _ m nx (λi=>i=nx\/i=nx+1) (up (up m nx (some (.map []))) (nx+1) (some (.cells (aq ((a,b),[])) 174))) (nx+2) h0 oG (λi hi _=>ay oG (ay oG rfl)) λi hi=>.inr oG,λi hi=>by dsimp only at hi ⊢;omega,.inl rfl,.inr rfl,oM,ay oG (aw _ _ _),aw _ _ _⟩,⟨⟨[],ca.length*ca.length+2,rfl,rfl,?_,oG⟩,λy hy=>?_,bY _⟩⟩ ?_)
 .by_cases hi:i=nx+1
  .subst hi;refine .inr ⟨_,aq ((a,b),[]),174,aw _ _ _,aw _ _ _,rfl,λk d d' hd jg=>?_⟩
   match k with
   |0=>cases hd;cases jg;exact λ_ _ _ _ h=>h
   |1=>cases hd;cases jg;exact λ_ _ _ _ h=>h
   |2=>cases hd;cases jg;exact DV
   |k+3=>cases hd
  .exact .inl ((aV _ _ hi).trans (aV _ _ hi).symm)
 .refine⟨λx hx=>?_,rfl,oS,oS,λx hx y hy=>?_,λx hx=>by simp at hx⟩
  .simp only[List.nil_append,List.mem_cons,List.not_mem_nil,or_false] at hx;subst hx;exact .nil
  .simp only[List.mem_cons,List.not_mem_nil,or_false] at hx hy;subst hx hy;omega
 .simp only[List.mem_cons,List.not_mem_nil,or_false] at hy;subst hy;exact bY _
 .rintro⟨k,S,m,C,j,pre,seen,O⟩ ⟨⟨hinv,qE,tF,tX,aR,Gj,aF⟩,EG⟩;dsimp only at hinv qE tF tX aR Gj aF EG;obtain⟨⟨Yd,f,ED,hYk,hB,hf⟩,aek,Jp⟩:=id EG;unfold wSt;dsimp only;have dd:=CW hB ao;have hNN:ca.length*ca.length<=1000000:=Nat.mul_le_mul hN hN;refine ax ?_;refine af ⟨_,rfl,λh=>?_,λh=>?_⟩
  .cases O with
   |nil=>simp at h
   |cons x O=>
    clear h
    have hd:(((pre++x::O).flatMap aq).drop (pre.length*3)).take 3=aq x:=by
     rw[Ja,List.flatMap_cons];exact List.take_left' (Rn x)
    refine aA ?_;refine SS ?_;refine aI (abU rfl rfl aF EB vB) aM ⟨Dj,oS⟩ ?_;refine aI (gA rfl aF aeU vB hd) aM (gB t174 vB (by rw[BM];simp;omega)) ?_;refine di (B5 O4) aM t174 ?_;refine dH (jV rfl rfl (aw _ _ _) rfl) aM (eO t174 vB oS (by rfl)) ?_;obtain⟨U,rI⟩:∃ U:Nat->Prop,U=λi=>S i\/i=C:=⟨_,rfl⟩
    have hj1:=qE _ tX;have qW:=qE _ tF;have al9:∀ y∈O,y.2.length<=seen.length:=λy hy=>aek y (List.mem_cons_of_mem _ hy)
    have aeV:(p0 sn ca a b)[k]? =some x:=by
     obtain⟨⟨Y,f,h1,h2,h3,h4⟩,_,_⟩:=EG;obtain⟨f,rfl⟩:∃ g,f=g+1:=⟨f - 1,by simp at dd;omega⟩
     rw[h1, <- h2,List.getElem?_append_right (bY _)];simp[pR]
    have wv:((p0 sn ca a b).map Hr)[k]? =some (Hr x):=by rw[List.getElem?_map,aeV];rfl
    have iD:k<(p0 sn ca a b).length:=(bQ.1 aeV).1;obtain⟨m2,oI⟩:∃ m2,m2=up (up m C (some (Row.cells [D.s (Value.int IntKind.i64 0),D.s (Value.int IntKind.i64 0),D.z] 174))) C (some (Row.cells (aq x) 174)):=⟨_,rfl⟩
    have ju:∀ i,i≠C->m2 i=m i:=λi hi=>by rw[oI,aV _ _ hi,aV _ _ hi]
    have Xe:m2 C=some (Row.cells (aq x) 174):=by rw[oI];exact aw _ _ _
    have xY:U nx:=by rw[rI];exact .inl tF
    have Ae:U j:=by rw[rI];exact .inl tX
    have Ac:∀ i,U i->i<C+1:=λi hi=>by
     rw[rI] at hi;rcases hi with hi|hi
     .have:=qE i hi;omega
     .omega
    have adm:I' k U (nU C (aq x) (prog.cellsOf 174) m2) (C+1):=hF k U m2 (C+1) C _ (by rw[rI];exact .inr rfl) (hI k S m C U m2 (C+1) hinv oG (λi hi _=>ju i oG) λi hi=>by
     rw[rI] at hi;rcases hi with hi|hi
     .exact .inl hi
     .exact .inr oG)
    have vW:nU C (aq x) (prog.cellsOf 174) m2 nx=some (.map (jM seen)):=vw ((ju nx oG).trans Gj) oG (R9 seen);have SP:nU C (aq x) (prog.cellsOf 174) m2 j=some (.cells ((pre++x::O).flatMap aq) 174):=vw ((ju j oG).trans aF) oG (ahN GG _);refine af ⟨⟨aD [(0,.fn (.yield l) [] []),(1,.pt [I a,I b]),(2,.pt (jq fl sh (ca.map a7))),(4,.mp nx),(5,.rs j (pre.length*3) (x::O).length),(6,.pt (aq x))],nU C (aq x) (prog.cellsOf 174) m2,C+1⟩,?_,?_⟩
    .subst oI;exact E' (i:=C) (cs:=aq x) (e:=174) (aw _ _ _) ⟨rfl,rfl,rfl,rfl,ai oG,bi rfl,aa⟩
    clear Xe ju oI Gj aF hinv qE tF tX;generalize nU C (aq x) (prog.cellsOf 174) m2=m at*
    refine aG (al ?_);refine bh ?_;refine adT rfl rfl aM ⟨rfl,k,U,wv,Ac,adm,λd m' nx' hp=>?_⟩;obtain⟨hp,JC,oh⟩:=hp;rcases hp with⟨rfl,hp⟩|⟨rfl,hp⟩
    .refine SS ?_;refine af (cM rfl (λh=>oH) λh=>?_);have Gj:=(oh nx xY).trans vW;have aF:=(oh j Ae).trans SP;clear oh vW SP;obtain⟨mo,si⟩:=ao _ _ (hB.lead x oS);obtain⟨sa,Bq⟩:∃ sa,sh[x.1.1]? =some sa:=⟨_,aO oG⟩
     obtain⟨sb,By⟩:∃ sb,sh[x.1.2]? =some sb:=⟨_,aO oG⟩
     have ur:(sn.getD x.1.1 0=sn.getD x.1.2 0)↔sa=sb:=by
      have:=Lw Bq By;rw[nQ] at this;rw[<- this];have l1:x.1.1<sn.length:=by rw[<- nQ];simpa using(by omega:x.1.1<sh.length)
      have l2:x.1.2<sn.length:=by rw[<- nQ];simpa using(by omega:x.1.2<sh.length)
      rw[fx (d:=0) l1,fx (d:=0) l2,bg]
     have aqO:(ca.map a7)[x.1.1]? =some (a7 (ca.getD x.1.1 [])):=by rw[List.getElem?_map,fx (d:=[]) mo];rfl
     have aqP:(ca.map a7)[x.1.2]? =some (a7 (ca.getD x.1.2 [])):=by rw[List.getElem?_map,fx (d:=[]) si];rfl
     refine cI (aG (c6 iO ?_));refine aX ?_;refine cz ?_;refine bJ bM (cM rfl (λh=>?_) λh=>?_)
     .have aqQ:=aR
      have aR:¬ sn.getD x.1.1 0=sn.getD x.1.2 0:=λe=>by
       rw[ur] at e;subst e;simp at h
      refine rh (yP ?_);refine SS ?_;refine aI (Y0 rfl aF EB vB (a:=1) (b:=((x::O).length:Nat)) rfl rfl) aM ⟨⟨Dj,rfl⟩,oG,by rw[List.length_cons];omega,Int.le_refl _⟩ ?_;refine aI (fR (v:=.rs _ _ _) rfl) aM aa ?_;refine af (aW ⟨k+1,U,m',nx',j,pre++[x],seen,O⟩ (au ⟨rfl,rfl,rfl,rfl,?_,aa⟩) ⟨⟨hp,λi hi=>by have:=Ac i hi;dsimp only;omega,xY,Ae,aqQ,Gj,by rw[List.append_assoc];exact aF⟩,(EG.next ao (by unfold rE;simp only[ai aR];rfl) al9 oP).1⟩ oM);show D.rs j (pre.length*3+(1:Int).toNat*3) (((x::O).length:Int) - 1).toNat=D.rs j ((pre++[x]).length*3) O.length;congr 1
      .simp;omega
      .simp
     .have qU:sn.getD x.1.1 0=sn.getD x.1.2 0:=by
       rw[ur];have:sa.toList=sb.toList:=by simpa using h
       rw[ym,ym] at this;exact Ab this
      refine cI (aA ?_);refine aX ?_;have PC:a7 (ca.getD x.1.1 [])=a7 (ca.getD x.1.1 []):=rfl;have iL:(a7 (ca.getD x.1.1 [])).length=(ca.getD x.1.1 []).length:=by simp
      have ayA:(ca.getD x.1.2 []).length=(ca.getD x.1.1 []).length:=(hlen _ _ mo si qU).symm;have uI:(ca.getD x.1.1 []).length<=100000:=dB _ (bD (fx (d:=[]) mo))
      refine af (eB (α:=Nat×WS) (λs=>⟨aD [(0,.fn (.yield l) [] []),(1,.pt [I a,I b]),(2,.pt (jq fl sh (ca.map a7))),(4,.mp nx),(5,.rs s.2.j (s.2.pre.length*3) s.2.O.length),(6,.pt (aq x)),(50,aU (a7 (ca.getD x.1.1 []))),(51,I (a7 (ca.getD x.1.1 [])).length),(52,I s.1)],s.2.m,s.2.nx⟩)
       (λs=>WI (I' (k+1)) nx s.2/\s.1<=(ca.getD x.1.1 []).length/\ie ca (a,b) x (seen,x::O) s.1=(s.2.seen,s.2.O)/\s.2.pre.length<=k/\∀ y∈s.2.O,y.2.length<=s.2.seen.length) (λs=>(ca.getD x.1.1 []).length - s.1) (0,⟨k+1,U,m',nx',j,pre,seen,x::O⟩)
       (au eH) ⟨⟨hp,λi hi=>by have:=Ac i hi;dsimp only;omega,xY,Ae,aR,Gj,aF⟩,Nat.zero_le _,rfl,Jp,aek⟩ ?_)
      clear Gj aF hp wv;rintro⟨i,⟨k2,S,m,C,j,pre,pq,O2⟩⟩ ⟨⟨hinv,qE,tF,tX,aR,Gj,aF⟩,hi,hE,Jp,CX⟩;dsimp only at hinv qE tF tX aR Gj aF hi hE Jp CX ⊢;obtain⟨O',Hn,EV,jS,_⟩:=VB qU (hB.lead x oS) i hi hB;rw[hE] at Hn EV;dsimp only at Hn EV;subst Hn;have aeW:=CW EV ao
      have ayB:pq.length<=1000000:=by
       have:=congrArg List.length EV.acq;simp at this aeW;omega
      have G':∀ p∈pq,p.1<=1000000/\p.2<=1000000:=λp hp=>by
       have:p∈(Yd++x::O').map (·.1):=by rw[EV.acq];exact List.mem_cons_of_mem _ hp
       obtain⟨y,hy,rfl⟩:=List.mem_map.1 this;have:=ao _ _ (EV.lead y hy);omega
      refine SS ?_;refine af ⟨_,rfl,λh=>?_,λh=>?_⟩
      .have gh:i<(ca.getD x.1.1 []).length:=by simpa using h
       clear h;have wo:(a7 (ca.getD x.1.1 []))[i]? =some (((ca.getD x.1.1 []).getD i 0:Nat):Int):=by rw[List.getElem?_map,fx (d:=0) gh];rfl
       have me:(a7 (ca.getD x.1.2 []))[i]? =some (((ca.getD x.1.2 []).getD i 0:Nat):Int):=by rw[List.getElem?_map,fx (d:=0) oG];rfl
       refine ws ?_;refine bh ?_;refine af (aA ?_);refine aX ?_;refine ag ?_;refine aI (Ln aeX aeo O6 rfl rfl) aM ⟨t121,aeq⟩ ?_;refine di (B5 O6) aM t121 ?_;refine dH (jV rfl rfl (aw _ _ _) rfl) aM (eO t121 Xk ⟨rfl,bY 2⟩ (by rfl)) ?_;obtain⟨U,rI⟩:∃ U:Nat->Prop,U=λi=>S i\/i=C:=⟨_,rfl⟩
       have hj1:=qE _ tX;have qW:=qE _ tF;obtain⟨J,iE⟩:∃ J,J=(ca.getD x.1.1 []).getD i 0:=⟨_,rfl⟩
       obtain⟨M,A7⟩:∃ M,M=(ca.getD x.1.2 []).getD i 0:=⟨_,rfl⟩
       have hkp:(J,M).1<=1000000/\(J,M).2<=1000000:=by
        have h1:=fI x.1.1 _ (bD (fx (d:=0) gh));have h2:=fI x.1.2 _ (bD (fx (d:=0) (show i<(ca.getD x.1.2 []).length by omega)));rw[<- iE] at h1;rw[<- A7] at h2;dsimp only;omega
       have Yj:ie ca (a,b) x (seen,x::O) (i+1)=sk ca (a,b) x (pq,x::O') i:=by
        rw[<- hE];unfold ie;rw[List.range_succ,List.foldl_append];rfl
       have ac7:gn ca x.1 i=(J,M):=by rw[iE,A7];rfl
       obtain⟨m2,oI⟩:∃ m2,m2=up (up m C (some (Row.cells [D.s (Value.int IntKind.i64 0),D.s (Value.int IntKind.i64 0)] 121))) C (some (Row.cells [I J,I M] 121)):=⟨_,rfl⟩
       have ju:∀ i,i≠C->m2 i=m i:=λi hi=>by rw[oI,aV _ _ hi,aV _ _ hi]
       have xY:U nx:=by rw[rI];exact .inl tF
       have Ae:U j:=by rw[rI];exact .inl tX
       have Ac:∀ i,U i->i<C+1:=λi hi=>by
        rw[rI] at hi;rcases hi with hi|hi
        .have:=qE i hi;omega
        .omega
       have adm:I' (k+1) U (nU C [I J,I M] (prog.cellsOf 121) m2) (C+1):=hF (k+1) U m2 (C+1) C _ (by rw[rI];exact .inr rfl) (hI (k+1) S m C U m2 (C+1) hinv oG (λi hi _=>ju i oG) λi hi=>by
        rw[rI] at hi;rcases hi with hi|hi
        .exact .inl hi
        .exact .inr oG)
       have vW:nU C [I J,I M] (prog.cellsOf 121) m2 nx=some (.map (jM pq)):=vw ((ju nx oG).trans Gj) oG (R9 pq);have SP:nU C [I J,I M] (prog.cellsOf 121) m2 j=some (.cells ((pre++x::O').flatMap aq) 174):=vw ((ju j oG).trans aF) oG (ahN GG _);refine af ⟨⟨aD [(0,.fn (.yield l) [] []),(1,.pt [I a,I b]),(2,.pt (jq fl sh (ca.map a7))),(4,.mp nx),(5,.rs j (pre.length*3) (x::O').length),(6,.pt (aq x)),(7,I i),(9,.pt [I J,I M]),(50,aU (a7 (ca.getD x.1.1 []))),(51,I (a7 (ca.getD x.1.1 [])).length),(52,I i)],nU C [I J,I M] (prog.cellsOf 121) m2,C+1⟩,?_,?_⟩
       .subst oI iE A7;exact E' (i:=C) (cs:=[I ((ca.getD x.1.1 []).getD i 0:Nat),I ((ca.getD x.1.2 []).getD i 0:Nat)]) (e:=121) (aw _ _ _) ⟨rfl,rfl,rfl,rfl,ai oG,rfl,rfl,bi rfl,rfl,rfl,rfl,aa⟩
       clear ju oI Gj aF hinv qE tF tX iE A7;generalize nU C [I J,I M] (prog.cellsOf 121) m2=m at*
       refine ws ?_;refine ag ?_;refine aI (ac6 (c:= !decide ((J,M)=(a,b))) rfl rfl anK rfl (by rw[alR])) aM ⟨rfl,anL⟩ ?_;refine aI (ki (v:=.s (.bool _)) rfl) aM aa ?_;by_cases P7:(J,M)=(a,b)
       .rw[decide_eq_true P7];iterate 2 refine z λ_ _=>?_
        refine pH rfl rfl λ_ _=>?_;refine z λ_ _=>?_;refine SS ?_;refine af (aB rfl (λh=>oH) λh=>cB ?_);show aE _ _ _ _ _ _ _ _ _;refine aI (aci rfl rfl oG) aM rfl ?_;refine aI (ki (v:=.s (.int _ _)) rfl) aM aa ?_;exact af (aW (i+1,⟨k2,U,m,C+1,j,pre,pq,x::O'⟩) (au eH) ⟨⟨adm,Ac,xY,Ae,aR,vW,SP⟩,oM,by rw[Yj,aba ac7 (λe=>e.1 P7)],Jp,CX⟩ oM)
       .rw[decide_eq_false P7];refine cF rfl rfl (ki (v:=.mp _) rfl) (λhc=>⟨ak,aa⟩) ?_;refine aqX ?_;refine cF rfl rfl (QO rfl vW rfl WG (anS (J,M) pq)) (λhc=>⟨(by repeat' (first|exact trivial|exact hc|exact rfl|refine And.intro ?_ ?_)),⟨WH,VN _ hkp,aej G'⟩⟩) ?_;refine ag ?_;refine af (aB rfl (λh=>al ?_) λh=>cB ?_)
        .have VM:(J,M)∉pq:=by simpa using h
         clear h;have hxw:x.2.length<=pq.length:=CX x oS;have ayC:O'.length<=1000000:=by simp at aeW;omega
         refine ag ?_;refine dH (IE (key:=nK (J,M)) (v:=B true) rfl vW rfl rfl WG) aM ⟨WH,VN _ hkp,aej G'⟩ ?_;refine af (Bp (hD [(1,13)]) ?_);rw[anT VM];refine cJ ?_;refine ag ?_;refine zh (anI rfl rfl rfl V.h (by rw[dJ,c3];simp)) ak ?_;refine SS ?_;refine di (pz (cs:=[_]) dJ c3 z3 rfl rfl) aM ⟨rfl,oC,dI,oC⟩ ?_;refine TY (alO rfl dJ c3 (fZ (aw _ _ _) rfl).ok (bL rfl) dI oS oC oC (by unfold maxLen;simp;omega) (by rw[b3];simp;omega)) aM ?_;refine aI (Ln aeY aer O4 rfl rfl) aM ⟨t174,aes⟩ ?_;refine di (pz EB vB O4 rfl rfl) aM ⟨rfl,oC,Dj,oC⟩ ?_;have fJ:∀ {a b c d},up (up (up (up m nx a) (C+1) b) (C+1+1) c) (C+1+1+1) d j=some (.cells ((pre++x::O').flatMap aq) 174):=ay oG (ay oG (ay oG (ay oG SP)));refine eT (eQ rfl fJ rfl EB vB (fZ (aw _ _ _) rfl) rfl) aM ⟨Dj,rfl,bL rfl,oC,by rw[BM];simp;omega,by unfold maxLen;simp;omega,by rw[aeZ];simp;omega,by simp;omega⟩ ?_;refine aI (fR (v:=.rs _ _ _) rfl) aM aa ?_;refine bJ bM ?_;refine aI (aci rfl rfl oG) aM rfl ?_;refine aI (ki (v:=.s (.int _ _)) rfl) aM aa ?_;obtain⟨m3,uT⟩:∃ m3,m3=up (up (up (up (up (up m nx (some (.map (jM (pq++[(J,M)]))))) (C+1) (some (.cells [I i] 3))) (C+1+1) (some (.cells ((a7 x.2).map I++[I i]) 3))) (C+1+1+1) (some (.cells [I J,I M,.rs (C+1+1) 0 ((a7 x.2).length+1)] 174))) j none) (C+1+1+1+1) (some (.cells (((pre++x::O').flatMap aq).drop (pre.length*3)++[I J,I M,.rs (C+1+1) 0 ((a7 x.2).length+1)]) 174)):=⟨_,rfl⟩
         refine af (aW (i+1,⟨k2,λq=>U q\/(C+1<=q/\q<C+1+1+1+1+1),nU (C+1+1) ((a7 x.2).map I++[I i]) (prog.cellsOf 3) m3,C+1+1+1+1+1,C+1+1+1+1,[],pq++[(J,M)],x::(O'++[((J,M),x.2++[i])])⟩) ?_ ⟨⟨?_,?_,?_,?_,?_,?_,?_⟩,?_,?_,?_,?_⟩ oM)
         .have hr:m3 (C+1+1)=some (.cells ((a7 x.2).map I++[I i]) 3):=by rw[uT];exact ay oG (ay oG (ay oG (aw _ _ _)))
          clear adm vW SP fJ;subst uT;refine E' (i:=C+1+1) (cs:=(a7 x.2).map I++[I i]) (e:=3) hr ⟨rfl,rfl,rfl,rfl,?_,rfl,rfl,rfl,rfl,aa⟩;refine(yp oG).trans ?_;show D.rs (C+1+1+1+1) 0 _=D.rs (C+1+1+1+1) 0 _;congr 1;simp
         .refine hF (k+1) _ m3 _ (C+1+1) _ (.inr oG) (hI (k+1) U m (C+1) _ m3 (C+1+1+1+1+1) adm oG (λq hq hnS=>?_) λq hq=>hq);have q1:q≠j:=λe=>hnS (e▸Ae);have q2:q≠nx:=λe=>hnS (e▸xY);rw[uT,aV _ _ oG,aV _ _ q1,aV _ _ oG,aV _ _ oG,aV _ _ oG,aV _ _ q2]
         .intro q hq;dsimp only at hq ⊢;rcases hq with hq|hq
          .have:=Ac q hq;omega
          .exact hq.2
         .exact .inl xY
         .exact .inr oM
         .dsimp only;omega
         .refine vw ?_ oG (R9 _);rw[uT];exact ay oG (ay oG (ay oG (ay oG (ay oG (aw _ _ _)))))
         .have cR:=ahN (X:=λk=>k=C+1+1) GG (x::O') (e:=174) (C+1+1) ((a7 x.2).map I++[I i]) (prog.cellsOf 3) rfl;simp only[Row.sub,Row.cells.injEq,and_true] at cR;dsimp only;unfold nU;rw[ai oG,uT,aw];simp only[Option.map_some,Row.sub];rw[Ja,List.map_append,cR]
          have e1:([]++x::(O'++[((J,M),x.2++[i])])).flatMap aq=(x::O').flatMap aq++aq ((J,M),x.2++[i]):=by
           rw[List.nil_append, <- List.cons_append,List.flatMap_append];simp
          rw[e1]
          have e2:sub (dq (C+1+1) ((a7 x.2).map I++[I i]) (prog.cellsOf 3)) (.rs (C+1+1) 0 ((a7 x.2).length+1))=aU (a7 (x.2++[i])):=by
           rw[lS (by rw[c3];simp)];simp[aU,a7]
          have e3:∀ n:Int,sub (dq (C+1+1) ((a7 x.2).map I++[I i]) (prog.cellsOf 3)) (I n)=I n:=λ_=>rfl;simp only[List.map_cons,List.map_nil,e2,e3];rfl
         .dsimp only;omega
         .dsimp only;rw[Yj,ajt ac7 P7 VM];rfl
         .exact Nat.zero_le _
         .intro y hy;dsimp only at hy ⊢;rw[<- List.cons_append,List.mem_append] at hy;rw[List.length_append];rcases hy with hy|hy
          .have:=CX y hy;omega
          .simp only[List.mem_cons,List.not_mem_nil,or_false] at hy;subst hy;simp;omega
        .have VM:(J,M)∈pq:=by simpa using h
         show aE _ _ _ _ _ _ _ _ _;refine aI (aci rfl rfl oG) aM rfl ?_;refine aI (ki (v:=.s (.int _ _)) rfl) aM aa ?_;exact af (aW (i+1,⟨k2,U,m,C+1,j,pre,pq,x::O'⟩) (au eH) ⟨⟨adm,Ac,xY,Ae,aR,vW,SP⟩,oM,by rw[Yj,aba ac7 (λe=>e.2 VM)],Jp,CX⟩ oM)
      .have bt:¬ i<(ca.getD x.1.1 []).length:=by simpa using h
       have:i=(ca.getD x.1.1 []).length:=by omega
       subst this;refine SS ?_;refine aI (Y0 rfl aF EB vB (a:=1) (b:=((x::O').length:Nat)) rfl rfl) aM ⟨⟨Dj,rfl⟩,oG,by rw[List.length_cons];omega,Int.le_refl _⟩ ?_;refine aI (fR (v:=.rs _ _ _) rfl) aM aa ?_;refine af (aW ⟨k+1,S,m,C,j,pre++[x],pq,O'⟩ (au ⟨rfl,rfl,rfl,rfl,?_,aa⟩) ⟨⟨hinv,qE,tF,tX,aR,Gj,by rw[List.append_assoc];exact aF⟩,(EG.next ao (by unfold rE;simp only[bi qU];rw[hE];rfl) (λy hy=>CX y (List.mem_cons_of_mem _ hy)) oP).1⟩ oM);show D.rs j (pre.length*3+(1:Int).toNat*3) (((x::O').length:Int) - 1).toNat=D.rs j ((pre++[x]).length*3) O'.length;congr 1
       .simp;omega
       .simp
    .refine SS ?_;exact af (cM rfl (λh=>abo (bj (aY (bP (De (.inr hp)))))) λh=>oH)
  .cases O with
   |nil=>
    refine Df (Or.inl ⟨S,?_⟩);rw[List.length_map,EG.end];exact hinv
   |cons x O=>simp at h
end
def av(n:Nat)(a:Int):Bool:=decide (0<=a)&&decide (a<n)
def pB{l:List az}{a b:Int}(hl:l.length<=1000):aH prog 70 [bS l,I a,I b] (.bu [.agg (Gi l),I (if(dK l).2=0 then(if av l.length a&&av l.length b then 0 else 1) else(dK l).2)]):=by
 have tD:=tD hl;refine bx (fo f70) (.cons (kV l) (.cons (.s _) fp)) (.bu (.cons (.agg (alJ l)) fp)) ?_;refine ws (ag ?_);apply er;have M:=Q8 (l:=l);have C:=Qv (l:=l);generalize (dK l).2=err at*
 by_cases he:err=0
 .have J:=M he;rw[J] at tD ⊢;subst he;refine cJ ?_;have Cv:=Cv (l:=l) (sh:=dL l) (ca:=(bC l).map a7);have iy:((0:Int)==0)=true:=rfl;refine af (aG (al (aX ?_)));refine aX ?_;refine SS ?_;refine ax ?_
  have hb:(if(if(if decide (a<0)=true then true else decide ((l.length:Int)<=a))=true then true else decide (b<0))=true then true else decide ((l.length:Int)<=b))= !(av l.length a&&av l.length b):=by
   unfold av;rw[Bool.eq_iff_iff];simp;omega
  rw[hb];refine af (cM rfl (λh=>?_) λh=>?_)
  .have h:(av l.length a&&av l.length b)=false:=by revert h;cases (av l.length a&&av l.length b)<;>simp
   rw[h,bi rfl,ai oS];refine ws (SS ?_);refine er (aQ ?_);exact af (bj (Bb (kz rfl rfl VG VH rfl t82 (bY 3)) rfl rfl))
  .have h:(av l.length a&&av l.length b)=true:=s0 h
   rw[h,bi rfl,bi rfl];refine cI (al (aQ ?_));exact af (bj (Bb (kz rfl rfl VG VH rfl t82 (bY 3)) rfl rfl))
 .have J:=C he;rw[J] at tD ⊢;have iy:(err==0)=false:=s0 he
  refine cJ ?_;refine af (aG (al ?_));have Cv:(false==true)=true->aH prog 48 [.agg [.z,.z,.z]] (I 0):=λh=>by cases h
  apply aI (ki (v:=.s (.int _ _)) rfl) aM aa
  refine SS ?_
  apply aI (ki (v:=.s (.bool _)) rfl) aM aa
  refine SS ?_
  refine SS ?_
  refine SS ?_
  refine SS ?_
  refine SS ?_
  (first|refine Di rfl rfl rfl (λhc=>⟨(by repeat' (first|exact trivial|exact hc|exact rfl|refine And.intro ?_ ?_)),Cv⟩) ?_|refine Di rfl rfl rfl (λhc=>⟨(by repeat' (first|exact trivial|exact hc|exact rfl|refine And.intro ?_ ?_)),Cv hc⟩) ?_|refine MX Cv rfl rfl rfl rfl (arc rfl) aM ?_|refine Di rfl rfl rfl (λhc=>⟨(by repeat' (first|exact trivial|exact hc|exact rfl|refine And.intro ?_ ?_)),Xl⟩) ?_|refine MX Xl rfl rfl rfl rfl (ao0 rfl) aM ?_)
  (first|refine cF rfl rfl (Sv rfl rfl xy) (λhc=>⟨(by repeat' (first|exact trivial|exact hc|exact rfl|refine And.intro ?_ ?_)),rfl⟩) ?_|refine cF rfl rfl (S0 rfl rfl) (λhc=>⟨(by repeat' (first|exact trivial|exact hc|exact rfl|refine And.intro ?_ ?_)),rfl⟩) ?_)
  (first|refine ajc rfl rfl rfl rfl (by first|exact λ_=>trivial|exact λ_=>rfl|exact λhc=>hc) (by first|exact λ_=>trivial|exact λ_=>rfl|exact λhc=>hc) ?_|refine ajd rfl rfl rfl rfl (by first|exact λ_=>trivial|exact λ_=>rfl|exact λhc=>hc) (by first|exact λ_=>trivial|exact λ_=>rfl|exact λhc=>hc) ?_|refine alx rfl rfl rfl rfl rfl (by first|exact λ_=>trivial|exact λ_=>rfl|exact λhc=>hc) (λhc h=>by first|exact trivial|exact rfl|exact hc|(show Eq _ _;rw[hc,h];rfl)|(show Eq _ _;rw[h,hc];rfl)|(show Eq _ _;simp[hc,h];done)|(show Eq _ _;simp_all;done)) (λhc h=>by first|exact trivial|exact rfl|exact hc|(show Eq _ _;rw[hc,h];rfl)|(show Eq _ _;rw[h,hc];rfl)|(show Eq _ _;simp[hc,h];done)|(show Eq _ _;simp_all;done)) ?_)
  (first|refine cF rfl rfl (ki (v:=.s (.bool _)) rfl) (λhc=>⟨(by repeat' (first|exact trivial|exact hc|exact rfl|refine And.intro ?_ ?_)),aa⟩) ?_)
  (first|refine cF rfl rfl (ki (v:=.s (.int _ _)) rfl) (λhc=>⟨(by repeat' (first|exact trivial|exact hc|exact rfl|refine And.intro ?_ ?_)),aa⟩) ?_)
  (first|refine cF rfl rfl (Su rfl rfl rO) (λhc=>⟨(by repeat' (first|exact trivial|exact hc|exact rfl|refine And.intro ?_ ?_)),rfl⟩) ?_|refine cF rfl rfl (SX rfl rfl) (λhc=>⟨(by repeat' (first|exact trivial|exact hc|exact rfl|refine And.intro ?_ ?_)),rfl⟩) ?_)
  (first|refine ajc rfl rfl rfl rfl (by first|exact λ_=>trivial|exact λ_=>rfl|exact λhc=>hc) (by first|exact λ_=>trivial|exact λ_=>rfl|exact λhc=>hc) ?_|refine ajd rfl rfl rfl rfl (by first|exact λ_=>trivial|exact λ_=>rfl|exact λhc=>hc) (by first|exact λ_=>trivial|exact λ_=>rfl|exact λhc=>hc) ?_|refine alx rfl rfl rfl rfl rfl (by first|exact λ_=>trivial|exact λ_=>rfl|exact λhc=>hc) (λhc h=>by first|exact trivial|exact rfl|exact hc|(show Eq _ _;rw[hc,h];rfl)|(show Eq _ _;rw[h,hc];rfl)|(show Eq _ _;simp[hc,h];done)|(show Eq _ _;simp_all;done)) (λhc h=>by first|exact trivial|exact rfl|exact hc|(show Eq _ _;rw[hc,h];rfl)|(show Eq _ _;rw[h,hc];rfl)|(show Eq _ _;simp[hc,h];done)|(show Eq _ _;simp_all;done)) ?_)
  (first|refine cF rfl rfl (ki (v:=.s (.bool _)) rfl) (λhc=>⟨(by repeat' (first|exact trivial|exact hc|exact rfl|refine And.intro ?_ ?_)),aa⟩) ?_)
  (first|refine cF rfl rfl (ki (v:=.s (.int _ _)) rfl) (λhc=>⟨(by repeat' (first|exact trivial|exact hc|exact rfl|refine And.intro ?_ ?_)),aa⟩) ?_)
  (first|refine cF rfl rfl (nZ rfl VG VH rfl) (λhc=>⟨(by repeat' (first|exact trivial|exact hc|exact rfl|refine And.intro ?_ ?_)),(n9 t82 VH oS)⟩) ?_|refine cF rfl rfl (gA rfl rfl VG VH rfl) (λhc=>⟨(by repeat' (first|exact trivial|exact hc|exact rfl|refine And.intro ?_ ?_)),(gB t82 VH (by first|(simp;done)|omega|exact bL rfl))⟩) ?_)
  (first|refine Di rfl rfl rfl (λhc=>⟨(by repeat' (first|exact trivial|exact hc|exact rfl|refine And.intro ?_ ?_)),Cv⟩) ?_|refine Di rfl rfl rfl (λhc=>⟨(by repeat' (first|exact trivial|exact hc|exact rfl|refine And.intro ?_ ?_)),Cv hc⟩) ?_|refine MX Cv rfl rfl rfl rfl (arc rfl) aM ?_|refine Di rfl rfl rfl (λhc=>⟨(by repeat' (first|exact trivial|exact hc|exact rfl|refine And.intro ?_ ?_)),Xl⟩) ?_|refine MX Xl rfl rfl rfl rfl (ao0 rfl) aM ?_)
  (first|refine cF rfl rfl (Sv rfl rfl xy) (λhc=>⟨(by repeat' (first|exact trivial|exact hc|exact rfl|refine And.intro ?_ ?_)),rfl⟩) ?_|refine cF rfl rfl (S0 rfl rfl) (λhc=>⟨(by repeat' (first|exact trivial|exact hc|exact rfl|refine And.intro ?_ ?_)),rfl⟩) ?_)
  (first|refine ajc rfl rfl rfl rfl (by first|exact λ_=>trivial|exact λ_=>rfl|exact λhc=>hc) (by first|exact λ_=>trivial|exact λ_=>rfl|exact λhc=>hc) ?_|refine ajd rfl rfl rfl rfl (by first|exact λ_=>trivial|exact λ_=>rfl|exact λhc=>hc) (by first|exact λ_=>trivial|exact λ_=>rfl|exact λhc=>hc) ?_|refine alx rfl rfl rfl rfl rfl (by first|exact λ_=>trivial|exact λ_=>rfl|exact λhc=>hc) (λhc h=>by first|exact trivial|exact rfl|exact hc|(show Eq _ _;rw[hc,h];rfl)|(show Eq _ _;rw[h,hc];rfl)|(show Eq _ _;simp[hc,h];done)|(show Eq _ _;simp_all;done)) (λhc h=>by first|exact trivial|exact rfl|exact hc|(show Eq _ _;rw[hc,h];rfl)|(show Eq _ _;rw[h,hc];rfl)|(show Eq _ _;simp[hc,h];done)|(show Eq _ _;simp_all;done)) ?_)
  (first|refine alv rfl rfl (by first|exact trivial|exact rfl) ?_|refine alw rfl rfl (by first|exact trivial|exact rfl) ?_|refine anB rfl rfl rfl (λh=>by first|exact trivial|exact rfl|exact h|(show Eq _ _;rw[h];rfl)|(show Eq _ _;simp[h];done)|(show Eq _ _;simp_all;done)) (λh=>by first|exact trivial|exact rfl|exact h|(show Eq _ _;rw[h];rfl)|(show Eq _ _;simp[h];done)|(show Eq _ _;simp_all;done)) ?_)
  refine af (cM rfl (fun h=>(by revert h;simp)) fun h=>cI (al ?_));rw[if_neg he];refine aQ ?_;exact af (bj (Bb (kz rfl rfl VG VH rfl t82 (bY 3)) rfl rfl))
section
variable{P:Program}{Y:iu}{Q:Exit->St->Prop}{st:St}{b:Code}
def WV{a:Code}(h:AX P Y a (jI (λst'=>∃ C,aP P st' C/\AX P Y b Q C) Q) st):AX P Y (.seq a b) Q st:=h
def Dm[fG Y]{ops:Array Oper}{id:Nat}(h:aE P Y ops false [] (iJ λst=>∃ st',aP P st st'/\AX P Y b Q st') ops.toList st []):AX P Y (.seq (.region id ops false) b) Q st:=by
 show AW P Y true (.region id ops false) _ st;exact kU (rf:=true) (aE.ni h λ_ h=>h)
def ao1(h:Q .ret st):AX P Y .ret Q st:=h
def al6{env:Env}{I:Mem->Nat->Prop}(h:Q .ret ⟨env,st.mem,st.nx⟩):aoA env I Q .ret st:=h
def VP{a1 a2 a3:Nat}{t1 t2 t3:TypeId}{K:D->St->Prop}{C J M:D}(h1:∃ p,vP P st (.cell a1 t1)=some (p,C)/\p)(h2:∃ p,vP P st (.cell a2 t2)=some (p,J)/\p)(U:∃ p,vP P st (.cell a3 t3)=some (p,M)/\p)(h:K (.bu [C,J,M]) st):
 pb P [.cell a1 t1,.cell a2 t2,.cell a3 t3] K .ret st:=by
 let⟨X,a1,b1⟩:=h1;let⟨p2,a2,b2⟩:=h2;let⟨p3,a3,b3⟩:=U;simp[pb,uo,a1,a2,a3];exact⟨b1,b2,b3,h⟩
end
def ac2{α:Type}{p:α->Bool}:∀ {l:List α} {k:Nat} {x:α},l[k]? =some x->p x=true->(∀ j y,j<k->l[j]? =some y->p y=false)->l.find? p=some x
 |[],k,x,h,_,_=>by simp at h
 |y::l,0,x,h,hp,_=>by
  simp[getElem?_cons_zero,bg] at h;subst h;simp[hp]
 |y::l,k+1,x,h,hp,hj=>by
  have:=hj 0 y oG rfl;rw[find?_cons,this];exact ac2 (s0 h) hp λj C J hz=>hj (j+1) C oG (s0 hz)
def ll(l:List az)(a b:Int):List D:=
 if(dK l).2=0 then(if av l.length a&&av l.length b then(match wM (dS l) (bC l) a.toNat b.toNat with
  |some x=>[aU (a7 x.2),B true,I 0]
  |none=>[.z,B false,I 0]) else [.z,B false,I 1]) else [.z,B false,I (dK l).2]
def Z3(l:List az)(a b:Int):∀ d∈ll l a b,Tr d:=by
 unfold ll;split
 .split
  .split
   .exact .cons (dP _) (.cons (.s _) fp)
   .exact .cons .z (.cons (.s _) fp)
  .exact .cons .z (.cons (.s _) fp)
 .exact .cons .z (.cons (.s _) fp)
def EX{l:List az}{a b:Int}(hl:l.length<=1000):aH prog 35 [bS l,I a,I b] (.bu (ll l a b)):=by
 have pB:=pB (a:=a) (b:=b) hl;apply ajN mixed (fo f35) kr (.cons (kV l) (.cons (.s _) fp)) (.bu (Z3 l a b));have On:=Q8 (l:=l);have aea:=Qv (l:=l);have X:=FQ (l:=l);obtain⟨J,C⟩:∃ J,J=(if(dK l).2=0 then(if av l.length a&&av l.length b then 0 else 1) else(dK l).2):=⟨_,rfl⟩
 rw[<- C] at pB;by_cases he:J=0
 .have h0:(dK l).2=0:=by
   by_cases h:(dK l).2=0
   .exact h
   .rw[ai h] at C;omega
  have NG:(av l.length a&&av l.length b)=true:=by
   rw[bi h0] at C;cases h:(av l.length a&&av l.length b) with
   |true=>rfl
   |false=>rw[h] at C;simp at C;omega
  have M:=X h0;rw[On h0] at pB;rw[ll,bi h0,bi NG];rw[he] at pB;simp[av,aJ,decide_eq_true_eq] at NG;let⟨⟨a0,a1⟩,b0,b1⟩:=NG;obtain⟨p,rfl⟩:=jy a0;obtain⟨q,rfl⟩:=jy b0;refine Dm (ax ?_);refine af ⟨_,.refl _,Dm ?_⟩;refine aX ?_;refine SS ?_;refine af ⟨_,.refl _,WV (al ?_)⟩;refine ag ?_;refine af (aB rfl (λh=>oH) λh=>bV ⟨_,.refl _,WV (Dm ?_)⟩);have Yi:=Yi (l:=l) (sh:=dL l) (ca:=(bC l).map a7) (a:=(p:Int)) (b:=(q:Int));refine aQ ?_;refine cl Yi ?_
  have HB:NZ prog 114 [] [.pt [I p,I q],.pt (jq l (dL l) ((bC l).map a7))] ((p0 (dS l) (bC l) p q).map Hr):=apr (by simp[dL]) oP M.B6 M.Ny oP oP λx hx=>by
   obtain⟨f,hf,rfl⟩:=mem_map.1 hx;have:=zL f.blocks;have:=(Fx (Go.Abs.checked (M.sd f hf))).mh;simp;omega
  obtain⟨m4,A0⟩:∃ m4:Mem,m4=up (up (up (up (up (λ_=>none) 0 (some (Row.cells [D.z] 43))) 1 (some (Row.cells [B false] 4))) 2 (some (Row.cells [I 0] 27))) 3 (some (Row.cells [D.z,D.z,D.z] 82))) 3 (some (Row.cells (jq l (dL l) ((bC l).map a7)) 82)):=⟨_,rfl⟩
  refine af ⟨⟨aD [(6,.rp 0 0),(7,.rp 1 0),(8,.rp 2 0),(9,.pt (jq l (dL l) ((bC l).map a7))),(27,.fn (.func 114) [] [.pt [I p,I q],.pt (jq l (dL l) ((bC l).map a7))])],nU 3 (jq l (dL l) ((bC l).map a7)) (prog.cellsOf 82) m4,4⟩,?_,?_⟩
  .subst A0;exact E' (i:=3) (cs:=jq l (dL l) ((bC l).map a7)) (e:=82) rfl eH
  have r0:nU 3 (jq l (dL l) ((bC l).map a7)) (prog.cellsOf 82) m4 0=some (.cells [.z] 43):=by rw[A0];rfl
  have r1:nU 3 (jq l (dL l) ((bC l).map a7)) (prog.cellsOf 82) m4 1=some (.cells [B false] 4):=by rw[A0];rfl
  have r2:nU 3 (jq l (dL l) ((bC l).map a7)) (prog.cellsOf 82) m4 2=some (.cells [I 0] 27):=by rw[A0];rfl
  generalize nU 3 (jq l (dL l) ((bC l).map a7)) (prog.cellsOf 82) m4=m5 at*
  clear A0 On aea X C;rw[eU,eU];refine⟨aa,114,[],_,_,λk m nx=>m 0=some (.cells [.z] 43)/\m 1=some (.cells [B false] 4)/\m 2=some (.cells [I 0] 27)/\3<=nx/\∀ j x,j<k->(p0 (dS l) (bC l) p q)[j]? =some x->(dS l).getD x.1.1 0=(dS l).getD x.1.2 0,rfl,HB,λx hx=>?_,⟨r0,r1,r2,oM,λj x hj=>by omega⟩,?_,?_⟩
  .obtain⟨y,_,rfl⟩:=mem_map.1 hx;exact⟨rfl,.cons (.agg (.cons (.s _) fp)) (.cons (dP _) .nil)⟩
  .rintro k m nx x hx ⟨r0,r1,r2,dA,O7⟩;rw[getElem?_map,ej] at hx;obtain⟨x,hx,rfl⟩:=hx;refine aA (di (B5 O6) aM t121 (dH (jV rfl rfl r9 rfl) aM (eO t121 Xk ⟨rfl,bY 2⟩ (by rfl)) ?_));have hB:BI (dS l) (bC l) (p,q) (p0 (dS l) (bC l) p q) ((ac3 (a:=p) (b:=q) M.B6 M.Ny oP oP).choose) []:=(ac3 M.B6 M.Ny oP oP).choose_spec;let⟨mo,si⟩:=Kq M.B6 M.Ny oP oP (hB.lead x (by rw[append_nil];exact bD hx));clear hB;let⟨sa,Bq⟩:=s3 (dL l) x.1.1 (by simpa[dL] using mo)
   let⟨sb,By⟩:=s3 (dL l) x.1.2 (by simpa[dL] using si)
   have ur:=alP Bq By;obtain⟨U,oI⟩:∃ U,U=up (up m nx (some (Row.cells [I 0,I 0] 121))) nx (some (Row.cells [I x.1.1,I x.1.2] 121)):=⟨_,rfl⟩
   have ju:∀ i,i≠nx->U i=m i:=λi hi=>by rw[oI,aV _ _ hi,aV _ _ hi]
   have r0:nU nx [I x.1.1,I x.1.2] (prog.cellsOf 121) U 0=some (.cells [.z] 43):=vw ((ju 0 oG).trans r0) oG (.cells λd hd=>by simp at hd;subst hd;exact .z);have r1:nU nx [I x.1.1,I x.1.2] (prog.cellsOf 121) U 1=some (.cells [B false] 4):=vw ((ju 1 oG).trans r1) oG (.cells λd hd=>by simp at hd;subst hd;exact .s _);have r2:nU nx [I x.1.1,I x.1.2] (prog.cellsOf 121) U 2=some (.cells [I 0] 27):=vw ((ju 2 oG).trans r2) oG (.cells λd hd=>by simp at hd;subst hd;exact .s _);refine af ⟨⟨aD [(6,.rp 0 0),(7,.rp 1 0),(8,.rp 2 0),(9,.pt (jq l (dL l) ((bC l).map a7))),(11,.pt [I x.1.1,I x.1.2]),(29,aU (a7 x.2))],nU nx [I x.1.1,I x.1.2] (prog.cellsOf 121) U,nx+1⟩,?_,?_⟩
   .clear r0 r1 r2 ju;subst oI;exact E' (i:=nx) (cs:=[I x.1.1,I x.1.2]) (e:=121) r9 ⟨lz oG,lz oG,lz oG,rfl,nh,rfl,aa⟩
   generalize nU nx [I x.1.1,I x.1.2] (prog.cellsOf 121) U=m at*
   refine my (SS ?_);refine af (show AW _ _ _ _ _ _ from tN (c6 iO ?_));refine aX ?_;refine aQ ?_;refine bJ bM (aB rfl (λh=>al ?_) λh=>cB ?_)
   .have nS:wM (dS l) (bC l) p q=some x:=by
     have aR:((dS l).getD x.1.1 0==(dS l).getD x.1.2 0)=false:=by
      rw[ur];revert h;cases (sa.toList==sb.toList)<;>simp
     refine ac2 hx (s0 aR) λj y hj hy=>?_;have:=O7 j y hj hy;rw[this];exact bne_self_eq_false _
    rw[nS];refine SS ?_;exact dH (lT (d:=.sl _ _) (cs':=[_]) rfl rfl r0 rfl rfl) aM (eO t43 ly ⟨rfl,bL rfl⟩ rfl) (dH (lT (d:=.s (.bool _)) (cs':=[_]) rfl rfl r1 rfl rfl) aM (eO t4 c4 ⟨rfl,bL rfl⟩ rfl) (dH (lT (d:=.s (.int _ _)) (cs':=[_]) rfl rfl r2 rfl rfl) aM (eO t27 Fa ⟨rfl,bL rfl⟩ rfl) (af (bj (cA (al6 (cA (aY (VP (vy (v:=aU (a7 x.2)) rfl rfl uX ly rfl t43) (vy rfl rfl a4 c4 rfl t4) (vy rfl rfl Qd Fa rfl t27) rfl)))))))))
   .refine⟨r0,r1,r2,oM,λj y hj hy=>?_⟩;by_cases J2:j<k
    .exact O7 j y J2 hy
    .have:j=k:=by omega
     subst this;rw[hx] at hy;cases hy
     have he:((dS l).getD x.1.1 0==(dS l).getD x.1.2 0)=true:=by
      rw[ur];revert h;cases (sa.toList==sb.toList)<;>simp
     simpa using he
  .rintro m nx ⟨r0,r1,r2,dA,O7⟩;refine⟨_,.refl _,Dm ?_⟩
   have nS:wM (dS l) (bC l) p q=none:=by
    unfold wM;refine find?_eq_none.2 λy hy=>?_;let⟨j,hj⟩:=cV hy;have cW:j<((p0 (dS l) (bC l) p q).map Hr).length:=by rw[length_map];exact(bQ.1 hj).1
    have:=O7 j y cW hj;rw[this];simp
   rw[nS];refine dH (lT (d:=.z) (cs':=[_]) rfl rfl r0 rfl rfl) aM (eO t43 ly ⟨rfl,bL rfl⟩ rfl) (dH (lT (d:=.s (.bool _)) (cs':=[_]) rfl rfl r1 rfl rfl) aM (eO t4 c4 ⟨rfl,bL rfl⟩ rfl) (dH (lT (d:=.s (.int _ _)) (cs':=[_]) rfl rfl r2 rfl rfl) aM (eO t27 Fa ⟨rfl,bL rfl⟩ rfl) (af ⟨_,.refl _,ao1 ?_⟩)));exact VP (vy (v:=.z) rfl rfl uX ly rfl t43) (vy rfl rfl a4 c4 rfl t4) (vy rfl rfl Qd Fa rfl t27) rfl
 .have hO:∃ o:List D,Gi l=o/\o.length=3/\o.all D.one=true:=by
   refine⟨_,rfl,?_⟩;unfold Gi;split<;>exact⟨rfl,rfl⟩
  have qJ:ll l a b=[.z,B false,I J]:=by
   rw[ll,C];split
   .rename_i h0;split
    .rename_i h1;rw[bi h0,bi h1] at C;exact absurd C he
    .rfl
   .rfl
  rw[qJ];let⟨o,ho,YU,J7⟩:=hO;rw[ho] at pB;clear On aea X C qJ;refine Dm (ax ?_);refine af ⟨_,.refl _,Dm ?_⟩;refine cJ ?_;refine dH (jV rfl rfl rfl rfl) aM (eO t82 VH ⟨YU,oS⟩ J7) (SS ?_);refine af ⟨_,.refl _,WV (al ?_)⟩;refine ag ?_;refine af (aB rfl (λh=>al ?_) λh=>absurd (s0 h) he);refine SS ?_;refine dH (lT (d:=.z) (cs':=[_]) rfl rfl rfl rfl rfl) ak (eO V.h V.h bk rfl) (dH (lT (d:=.s (.bool _)) (cs':=[_]) rfl rfl rfl rfl rfl) ak (eO V.h V.h bk rfl) (SS ?_));exact af (bj (aY (VP (vy (v:=.z) rfl rfl uX ly rfl t43) (vy rfl rfl a4 c4 rfl t4) (vy rfl rfl Qd Fa rfl t27) rfl)))
def zC(l:List az)(a b:Int)(way:List Int):Bool:=decide ((dK l).2=0)&&(av l.length a&&av l.length b)&&tf (dS l) (bC l) a.toNat b.toNat way
def hP(l:List az)(a b:Int):Int:=if(dK l).2=0 then(if av l.length a&&av l.length b then 0 else 1) else(dK l).2
def VX{l:List az}{a b:Int}(h:hP l a b=0):(dK l).2=0/\∃ p q:Nat,a=p/\b=q/\p<l.length/\q<l.length:=by
 unfold hP at h;split at h
 .rename_i h0;split at h
  .rename_i h1;simp[av,aJ,decide_eq_true_eq] at h1;let⟨⟨a0,a1⟩,b0,b1⟩:=h1;obtain⟨p,rfl⟩:=jy a0;obtain⟨q,rfl⟩:=jy b0;exact⟨h0,p,q,rfl,rfl,oG,oG⟩
  .cases h
 .rename_i h0;exact absurd h h0
def ac8{l:List az}{a b:Int}{way:List Int}(h:hP l a b≠0):zC l a b way=false:=by
 unfold zC;unfold hP at h;split at h
 .split at h
  .exact absurd rfl h
  .rename_i h1;have:(av l.length a&&av l.length b)=false:=s0 h1
   rw[this];simp
 .rename_i h0;rw[decide_eq_false h0];simp
def aed{l:List az}{p q:Nat}{way:List Int}(h0:(dK l).2=0)(hp:p<l.length)(hq:q<l.length):zC l p q way=tf (dS l) (bC l) p q way:=by
 unfold zC av;rw[eU,eU,decide_eq_true h0,decide_eq_true (show(0:Int)<=p by omega),decide_eq_true (show(0:Int)<=q by omega),decide_eq_true (show(p:Int)<l.length by omega),decide_eq_true (show(q:Int)<l.length by omega)];simp
def aaH{sn:List Nat}{ca:List (List Nat)}{way:List Int}{k:Nat}{x:Int}{p q:Nat}(hx:way[k]? =some x):tf sn ca p q (way.drop k)=(sn.getD p 0==sn.getD q 0&&(decide (0<=x)&&(decide (x<(ca.getD p []).length)&&tf sn ca (gn ca (p,q) x.toNat).1 (gn ca (p,q) x.toNat).2 (way.drop (k+1))))):=by
 obtain⟨hk,rfl⟩:=bQ.1 hx;rw[drop_eq_getElem_cons hk];rfl
def Gk{l:List az}{a b:Int}{way:List Int}(hl:l.length<=1000):aH prog 37 [bS l,I a,I b,aU way] (.bu [B (zC l a b way),I (hP l a b)]):=by
 refine nB (fo f37).he (.cons (kV l) (.cons (.s _) (.cons (.s _) (.cons (dP _) .nil)))) λeS=>?_;have hw:=(eS (aU way) oS).sl.1;unfold maxLen at hw;have pB:aH prog 70 [bS l,I a,I b] (.bu [.agg (Gi l),I (hP l a b)]):=pB (a:=a) (b:=b) hl;refine bx (fo f37) (.cons (kV l) (.cons (.s _) (.cons (.s _) (.cons (dP _) .nil)))) (.bu (.cons (.s _) fp)) ?_;have On:=Q8 (l:=l);have M:=FQ (l:=l);have vC:=VX (l:=l) (a:=a) (b:=b);have U:=ac8 (l:=l) (a:=a) (b:=b) (way:=way);generalize hP l a b=err at*
 by_cases he:err=0
 .obtain⟨h0,p,q,rfl,rfl,hp,hq⟩:=vC he;subst he;have X:=M h0;rw[On h0] at pB;rw[aed h0 hp hq];clear On M vC U;refine ws (ag ?_);refine er (aX ?_);refine SS ?_;refine af (aG (al (ag ?_)));refine af (cM rfl (λh=>oH) λh=>cI (aG (aA ?_)));refine ax ?_;have ayD:(dS l).length=l.length:=by simp[dS,dL]
  have ayE:(bC l).length=l.length:=by simp
  have gQ:∀ x∈bC l,x.length<=100000:=λx hx=>by
   obtain⟨f,hf,rfl⟩:=mem_map.1 hx;have:=zL f.blocks;have:=(Fx (Go.Abs.checked (X.sd f hf))).mh;simp;omega
  have qJ:∃ r,r=tf (dS l) (bC l) p q way:=⟨_,rfl⟩
  let⟨r,hr⟩:=qJ;rw[<- hr]
  refine af (cw (λs=>∃ (p q nx:Nat),aP prog s ⟨aD [(1,I p),(2,I q),(10,.pt (jq l (dL l) ((bC l).map a7)))],λ_=>none,nx⟩/\p<l.length/\q<l.length/\r= !((dS l).getD p 0==(dS l).getD q 0)) (eB (α:=Nat×Nat×Nat×Nat)
   (λs=>⟨aD [(1,I s.2.1),(2,I s.2.2.1),(10,.pt (jq l (dL l) ((bC l).map a7))),(24,aU way),(25,I way.length),(26,I s.1)],λ_=>none,s.2.2.2⟩)
   (λs=>s.1<=way.length/\s.2.1<l.length/\s.2.2.1<l.length/\r=tf (dS l) (bC l) s.2.1 s.2.2.1 (way.drop s.1)) (λs=>way.length - s.1) (0,p,q,1)
   (cH [(0,jq l (dL l) ((bC l).map a7),82)] eH eH) ⟨Nat.zero_le _,hp,hq,hr⟩ ?_) ?_)
  .clear hp hq hr;rintro⟨k,p,q,nx⟩ ⟨hk,hp,hq,hr⟩;dsimp only at hk hp hq hr ⊢;refine SS ?_;refine af ⟨_,rfl,λh=>?_,λh=>?_⟩
   .have iD:k<way.length:=s0 h
    clear h;let⟨x,hx⟩:=s3 way k iD
    let⟨C,Bq⟩:=s3 (dL l) p (by simpa[dL] using hp)
    let⟨J,By⟩:=s3 (dL l) q (by simpa[dL] using hq)
    have ur:=alP Bq By;have aqO:((bC l).map a7)[p]? =some (a7 ((bC l).getD p [])):=by rw[getElem?_map,fx (d:=[]) oG];rfl
    have aqP:((bC l).map a7)[q]? =some (a7 ((bC l).getD q [])):=by rw[getElem?_map,fx (d:=[]) oG];rfl
    have EJ:(a7 ((bC l).getD p [])).length<=100000:=s0 (gQ _ (bD (fx (d:=[]) (show p<(bC l).length by omega))))
    rw[aaH hx,ur] at hr;refine ws (ax ?_);refine af (aG (c6 iO ?_));refine aX ?_;refine aX ?_;refine ek ?_;refine bJ bM (cM rfl (λh=>?_) λh=>?_)
    .have ao8:r=false:=by
      rw[hr];revert h;cases (C.toList==J.toList) with
      |false=>simp
      |true=>
       intro h;by_cases h1:x<0
       .rw[decide_eq_false (show ¬ 0<=x by omega)];simp
       .by_cases h2:x<(((bC l).getD p []).length:Int)
        .exfalso;revert h;simp[h1];simp at h2;omega
        .rw[decide_eq_false h2];simp
     rw[ao8];refine aG (al (ag ?_));exact af (abo (bj (aY (bP (aY (fB rfl rfl rfl))))))
    .have hb:(C.toList==J.toList)=true/\0<=x/\x<(((bC l).getD p []).length:Int):=by
      revert h;cases (C.toList==J.toList) with
      |false=>simp
      |true=>
       intro h;refine⟨rfl,?_⟩;by_cases h1:x<0
       .exfalso;revert h;simp[h1]
       .refine⟨oG,?_⟩;revert h;simp[h1]
     let⟨hs,x0,x1⟩:=hb;obtain⟨i,rfl⟩:=jy x0;have yQ:i<((bC l).getD p []).length:=by omega
     have nQ:(dS l).getD p 0=(dS l).getD q 0:=by
      have:((dS l).getD p 0==(dS l).getD q 0)=true:=by rw[ur];exact hs
      simpa using this
     have Qx:i<((bC l).getD q []).length:=by
      rw[<- X.Ny p q oG oG nQ];exact yQ
     have wo:(a7 ((bC l).getD p []))[i]? =some ((((bC l).getD p []).getD i 0:Nat):Int):=by rw[getElem?_map,fx (d:=0) yQ];rfl
     have me:(a7 ((bC l).getD q []))[i]? =some ((((bC l).getD q []).getD i 0:Nat):Int):=by rw[getElem?_map,fx (d:=0) Qx];rfl
     have lu:=X.B6 p _ (bD (fx (d:=0) yQ));have lM:=X.B6 q _ (bD (fx (d:=0) Qx));rw[hs,decide_eq_true x0,decide_eq_true x1,eU] at hr;simp[Bool.true_and] at hr;refine cI (Bp iO ?_);refine aX ?_;refine aX ?_;refine bJ bM (ag ?_);exact af (aW (k+1,((bC l).getD p []).getD i 0,((bC l).getD q []).getD i 0,nx) (au eH) ⟨oM,oM,oM,hr⟩ oM)
   .have bt:¬ k<way.length:=s0 h
    refine⟨p,q,nx,au eH,hp,hq,?_⟩;rw[drop_eq_nil_of_le oG] at hr;exact hr
  .rintro s ⟨p,q,nx,gy,hp,hq,hr⟩;let⟨C,Bq⟩:=s3 (dL l) p (by simpa[dL] using hp)
   let⟨J,By⟩:=s3 (dL l) q (by simpa[dL] using hq)
   rw[alP Bq By] at hr;rw[hr];refine⟨_,gy,c6 iO ?_⟩;refine aX ?_;refine aQ ?_;exact bJ bM (bj (fB rfl rfl rfl))
 .have hO:∃ o:List D,Gi l=o/\o.length=3/\o.all D.one=true:=by
   refine⟨_,rfl,?_⟩;unfold Gi;split<;>exact⟨rfl,rfl⟩
  rw[U he];let⟨o,ho,YU,J7⟩:=hO;rw[ho] at pB;clear On U M vC;refine ws (ag ?_);refine er (cJ ?_);refine dH (jV rfl rfl rfl rfl) aM (eO t82 VH ⟨YU,oS⟩ J7) (SS ?_);refine af (aG (al (ag ?_)));refine af (cM rfl (λh=>aG (al ?_)) λh=>absurd (s0 h) he);refine ax ?_;exact af (abo (bj (aY (fB rfl rfl rfl))))
def al7{l:List az}{a b:Int}:M0 l [a,b]=hP l a b:=by
 unfold M0 hP av
 have e:[a,b].any (B9 l.length)= !((decide (0<=a)&&decide (a<l.length))&&(decide (0<=b)&&decide (b<l.length))):=by
  by_cases h1:a<0<;>by_cases h2:b<0<;>by_cases C:a<l.length<;>by_cases J:b<l.length<;>simp[B9,h1,h2,C,J]<;>omega
 rw[e];cases (decide (0<=a)&&decide (a<l.length))&&(decide (0<=b)&&decide (b<l.length))<;>rfl
def Ko{l:List az}(C:lF l){a k:Nat}{f:az}{x:ByteArray}(hf:l[a]? =some f)(hx:(cU f.blocks)[k]? =some x):named l x=(((bC l).getD a []).getD k 0:Nat)/\((bC l).getD a []).getD k 0<l.length:=by
 have hk:=C.known (bD hf) (s:=x) (bD hx);have e:((bC l).getD a []).getD k 0=eN l x:=by rw[FT hf];exact mW (by simp[hx])
 rw[e];exact⟨Lz C.nodup hk,Sx hk⟩
def Kn{l:List az}{a:Nat}{f:az}(hf:l[a]? =some f):(cU f.blocks).length=((bC l).getD a []).length:=by
 rw[FT hf,length_map]
def ae1{l:List az}{a b:Int}(C:Gl l):aH prog 46 [bS l,aU [a,b]] (I (hP l a b)):=by
 have h:=EE (p:=[a,b]) C oS
 rwa[al7] at h
def aeM{l:List az}{a b:Int}{m:Mem}(hm:m 0=some (.cells [I a,I b] 3)):nP prog [0] m [bS l,.rs 0 0 2] [bS l,aU [a,b]]:=⟨dR (kV l),I3 hm oS (by rw[c3];rfl) (.cons (.s _) fp),aa⟩
def Gm{l:List az}{a b:Int}{way:List Int}(hF:Gl l)(hw:way.length<=100000):aH prog 38 [bS l,I a,I b,aU way] (.bu [B (zC l a b way),I (hP l a b)]):=by
 have EE:=ae1 (a:=a) (b:=b) hF;have Ht:=λ{m:Mem}=>aeM (l:=l) (a:=a) (b:=b) (m:=m);refine bx (fo f38) (.cons (kV l) (.cons (.s _) (.cons (.s _) (.cons (dP _) .nil)))) (.bu (.cons (.s _) fp)) ?_;have J:=FQ (l:=l);have vC:=VX (l:=l) (a:=a) (b:=b);have M:=ac8 (l:=l) (a:=a) (b:=b) (way:=way);generalize hP l a b=err at*
 refine ws (ag ?_);refine er (aQ ?_);refine apZ EE rfl (Ht rfl) rfl ak (SS ?_);clear Ht;refine af (aG (al (ag ?_)));refine af (cM rfl (λh=>aG (al ?_)) λh=>cI (aG (aA ?_)))
 .have h:err≠0:=s0 h
  rw[M h];refine ax ?_;exact af (de (fB rfl rfl rfl))
 have h:err=0:=s0 h
 obtain⟨h0,p,q,rfl,rfl,hp,hq⟩:=vC h;subst h;have C:=J h0;rw[aed h0 hp hq];clear J vC M EE;have azu:=C.len;have U:∀ {f g:az},f∈l->g∈l->aH prog 52 [.agg (aL f),.agg (aL g)] (B (vZ f g)):=λhf hg=>zE (C.sd _ hf) (C.sd _ hg);have dd:∀ {f:az},f∈l->f.blocks.length<=1000000:=λhf=>by have:=(yR (Abs.checked (C.sd _ hf))).mh;omega
 have qJ:∃ r,r=tf (dS l) (bC l) p q way:=⟨_,rfl⟩
 let⟨r,hr⟩:=qJ;rw[<- hr];refine SS ?_
 refine af (cw (λs=>∃ (p q nx:Nat),aP prog s ⟨aD [(0,bS l),(1,I p),(2,I q)],λ_=>none,nx⟩/\p<l.length/\q<l.length/\r= !((dS l).getD p 0==(dS l).getD q 0)) (cT (α:=Nat×Nat×Nat×Nat)
  (λs=>⟨aD [(0,bS l),(1,I s.2.1),(2,I s.2.2.1),(3,aU way),(11,I s.1)],λ_=>none,s.2.2.2⟩)
  (λs=>s.1<=way.length/\s.2.1<l.length/\s.2.2.1<l.length/\r=tf (dS l) (bC l) s.2.1 s.2.2.1 (way.drop s.1)) (λs=>way.length - s.1) (0,p,q,1)
  (jB eH) ⟨Nat.zero_le _,hp,hq,hr⟩ ?_) ?_)
 .clear hp hq hr;rintro⟨k,p,q,nx⟩ ⟨hk,hp,hq,hr⟩;dsimp only at hk hp hq hr ⊢;refine aQ ?_;refine af ⟨_,rfl,λh=>?_,λh=>?_⟩
  .have iD:k<way.length:=s0 h
   clear h;let⟨x,hx⟩:=s3 way k iD
   let⟨f,hf⟩:=s3 l p hp
   let⟨g,hg⟩:=s3 l q hq
   have X:=Sy C hf hg;have zE:=U (bD hf) (bD hg);have JF:=oO (dd (bD hf));have JG:=oO (dd (bD hg));have dB:=Kn hf;have Ut:=Kn hg;have PC:=λi x=>Ko (x:=x) (k:=i) C hf;have YS:=λi x=>Ko (x:=x) (k:=i) C hg;have xL:(cU f.blocks).length<=1000000:=Nat.le_trans (zL f.blocks) (dd (bD hf));generalize cU f.blocks=xs at*
   generalize cU g.blocks=ys at*
   apply ws;have oO:=JF;refine cz ?_;apply er;clear oO;have oO:=JG;refine cz ?_;clear oO JF JG;refine af (aG (c6 iO ?_))
   have Xc:((dS l).getD p 0==(dS l).getD q 0)=vZ f g:=by
    rw[Bool.eq_iff_iff, <- X];simp
   rw[aaH hx,Xc, <- dB] at hr;generalize vZ f g=o at*
   refine aX ?_;refine aX ?_;refine cJ ?_;refine bJ bM (cM rfl (λh=>?_) λh=>?_)
   .have ao8:r=false:=by
     rw[hr];revert h;cases o with
     |false=>simp
     |true=>
      intro h;by_cases h1:x<0
      .rw[decide_eq_false (show ¬ 0<=x by omega)];simp
      .by_cases h2:x<(xs.length:Int)
       .exfalso;revert h;simp[h1];omega
       .rw[decide_eq_false h2];simp
    rw[ao8];refine aG (al (ag ?_));exact af (abo (bj (aY (bP (aY (fB rfl rfl rfl))))))
   .have hb:o=true/\0<=x/\x<(xs.length:Int):=by
     revert h;cases o with
     |false=>simp
     |true=>
      intro h;refine⟨rfl,?_⟩;by_cases h1:x<0
      .exfalso;revert h;simp[h1]
      .refine⟨oG,?_⟩;revert h;simp[h1]
    clear h;obtain⟨rfl,x0,x1⟩:=hb;obtain⟨i,rfl⟩:=jy x0;have yQ:i<xs.length:=by omega
    have nQ:(dS l).getD p 0=(dS l).getD q 0:=X.2 rfl
    have Qx:i<ys.length:=by
     rw[Ut, <- C.Ny p q (by rw[pJ];exact hp) (by rw[pJ];exact hq) nQ, <- dB];exact yQ
    let⟨x,Hw⟩:=s3 xs i yQ
    let⟨y,hyi⟩:=s3 ys i Qx
    let⟨dA,lu⟩:=PC i x Hw;let⟨YV,lM⟩:=YS i y hyi;have GL:=ss (l:=l) (s:=x);have GM:=ss (l:=l) (s:=y);rw[dA] at GL;rw[YV] at GM;rw[decide_eq_true x0,decide_eq_true x1,eU] at hr;simp[Bool.true_and] at hr;have hr:r=tf (dS l) (bC l) (((bC l).getD p []).getD i 0) (((bC l).getD q []).getD i 0) (way.drop (k+1)):=hr;generalize ((bC l).getD p []).getD i 0=p' at*
    generalize ((bC l).getD q []).getD i 0=q' at*
    refine cI (al ?_);have ss:=GL;refine aX ?_;refine SS ?_;refine af (gj ?_);clear ss;have ss:=GM;refine aX ?_;refine SS ?_;clear ss GL GM;apply af;show aE _ _ _ _ _ _ _ _ _;refine ax ?_;exact af (aW (k+1,p',q',nx) (au eH) ⟨oM,lu,lM,hr⟩ oM)
  .have bt:¬ k<way.length:=s0 h
   refine⟨p,q,nx,au eH,hp,hq,?_⟩;rw[drop_eq_nil_of_le oG] at hr;exact hr
 .rintro s ⟨p,q,nx,gy,hp,hq,hr⟩;let⟨f,hf⟩:=s3 l p hp
  let⟨g,hg⟩:=s3 l q hq
  have X:=Sy C hf hg
  have Xc:((dS l).getD p 0==(dS l).getD q 0)=vZ f g:=by
   rw[Bool.eq_iff_iff, <- X];simp
  have zE:=U (bD hf) (bD hg);rw[hr,Xc];refine⟨_,gy,c6 iO ?_⟩;refine aX ?_;refine ax ?_;exact bJ bM (bj (fB rfl rfl rfl))
def eW.frame{m m':Mem}{nx nx' j n:Nat}{e et:TypeId}{ρ:Nat->Nat}{L:Nat->List D}(h:eW m nx j n e et ρ L)(hn:nx<=nx')(hj:m' j=m j)(hr:∀ i,i<n->L i≠[]->m' (ρ i)=m (ρ i)):eW m' nx' j n e et ρ L:=
 ⟨hj.trans h.row,Nat.lt_of_lt_of_le h.mY hn,λi hi hl=>(hr i hi hl).trans (h.rR i hi hl),λi hi hl=>Nat.lt_of_lt_of_le (h.lt i hi hl) hn,h.ne,h.inj⟩
section
def gH(Z:List (Nat×Nat))(a b:Nat):Bool:=decide ((a,b)∈Z)
variable{a:Nat}
def akG{Z:List (Nat×Nat)}{b:Nat}:te (gH Z) a b=gH (Z++[(a,b)]):=by
 funext x y;unfold te gH;by_cases e:x=a/\y=b
 .obtain⟨rfl,rfl⟩:=e;simp
 .have:(x,y)≠(a,b):=λh=>e ⟨congrArg Prod.fst h,congrArg Prod.snd h⟩;rw[ai e,Bool.eq_iff_iff];simp[this]
def ajE(n k:Nat):eI n [B false]=iz n (gH []) k:=by
 unfold iz gH;simp[not_mem_nil,decide_false]
 induction n with
 |zero=>rfl
 |succ n ih=>rw[range_succ,map_append, <- ih];simp[eI,replicate_succ']
variable{n:Nat}{A:Nat->Nat->Bool}
def Ms(h:0<n):iz n A a≠[]:=λe=>by
 have:=congrArg length e;rw[CQ,length_nil] at this;omega
def akT{A:Nat->Nat->Bool}{a b:Nat}(hb:b<n):∃ cs,(iz n A a).drop b=B (A a b)::cs:=by
 have C:b<(iz n A a).length:=by rw[CQ];exact hb
 refine⟨(iz n A a).drop (b+1),?_⟩;rw[drop_eq_getElem_cons C];congr 1;simp[iz]
def abT:D0 (iz n A a):=λd hd=>by
 obtain⟨b,_,rfl⟩:=mem_map.1 hd;exact⟨_,rfl⟩
structure QS where
 j:Nat
 pre:List PW
 T:List PW
 Z:List (Nat×Nat)
 m:Mem
 nx:Nat
structure QI(l:List az)(r:Option PW)(p q:Nat)(ρ:Nat->Nat)(s:QS):Prop where
 ri:RI (dS l) (bC l) (p,q) r s.T s.Z
 jn:s.j<s.nx
 row:s.m s.j=some (.cells ((s.pre++s.T).flatMap aq) 123)
 jag:eW s.m s.nx 2 l.length 92 4 ρ (iz l.length (gH s.Z))
 j2:s.j≠2
 jr:∀ i,i<l.length->ρ i≠s.j
 tl:s.T.length<=1+s.Z.length*1000000
def apD:Option PW->List D
 |some x=>[aU (a7 x.2),B true,I 0]
 |none=>[.z,B false,I 0]
def ajF{l:List az}{a b:Int}(h:hP l a b≠0):ll l a b=[.z,B false,I (hP l a b)]:=by
 by_cases h0:(dK l).2=0
 .by_cases h1:(av l.length a&&av l.length b)=true
  .exact absurd (by rw[hP,bi h0,bi h1]) h
  .rw[ll,hP,bi h0,bi h0,ai h1,ai h1]
 .rw[ll,hP,ai h0,ai h0]
def alM{l:List az}{p q:Nat}(h0:(dK l).2=0)(hp:p<l.length)(hq:q<l.length):ll l p q=apD (wM (dS l) (bC l) p q):=by
 unfold ll av;rw[bi h0,eU,eU,decide_eq_true (show(0:Int)<=p by omega),decide_eq_true (show(0:Int)<=q by omega),decide_eq_true (show(p:Int)<l.length by omega),decide_eq_true (show(q:Int)<l.length by omega)];simp only[Bool.and_self,if_true];cases wM (dS l) (bC l) p q<;>rfl
end
def GD{l:List az}{a b:Int}(hF:Gl l):aH prog 36 [bS l,I a,I b] (.bu (ll l a b)):=by
 have EE:=ae1 (a:=a) (b:=b) hF;have Ht:=λ{m:Mem}=>aeM (l:=l) (a:=a) (b:=b) (m:=m);refine bx (fo f36) (.cons (kV l) (.cons (.s _) fp)) (.bu (Z3 l a b)) ?_;have ad':=FQ (l:=l);have vC:=VX (l:=l) (a:=a) (b:=b);have aea:=ajF (l:=l) (a:=a) (b:=b);generalize hP l a b=err at*
 refine ws (ax ?_);refine er (aQ ?_);refine apZ EE rfl (Ht rfl) rfl ak (SS ?_);clear Ht;refine af (aG (al (ag ?_)));refine af (cM rfl (λh=>aG (al ?_)) λh=>cI (al ?_))
 .have h:err≠0:=s0 h
  rw[aea h];refine aQ ?_;exact af (de (VL rfl rfl rfl rfl))
 have h:err=0:=s0 h
 obtain⟨h0,p,q,rfl,rfl,hp,hq⟩:=vC h;subst h;have U:=ad' h0;rw[alM h0 hp hq];clear ad' vC aea EE;have dB:(bC l).length=l.length:=pJ l;have azu:=U.len;have hNN:l.length*l.length<=3600:=Nat.mul_le_mul azu azu;have ao:∀ w y,mZ (dS l) (bC l) (p,q) w y->y.1<(bC l).length/\y.2<(bC l).length:=λw y=>Kq U.B6 U.Ny (by rw[dB];exact hp) (by rw[dB];exact hq);have rv:=RI.start (sn:=dS l) (ca:=bC l) (a:=p) (b:=q) (by rw[dB];exact hp) (by rw[dB];exact hq);generalize wM (dS l) (bC l) p q=r at*
 have aen:∀ {f g:az},f∈l->g∈l->aH prog 52 [.agg (aL f),.agg (aL g)] (B (vZ f g)):=λhf hg=>zE (U.sd _ hf) (U.sd _ hg);have dd:∀ {f:az},f∈l->f.blocks.length<=1000000:=λhf=>by have:=(yR (Abs.checked (U.sd _ hf))).mh;omega
 refine bh ?_;refine af (aA (ag ?_));refine di (H5 rfl rfl V.h V.h) ak ⟨oG,rfl,oG,by rw[b92];omega,V.h⟩ (SS ?_);refine af ⟨_,(bp (l:=[(0,bS l),(10,.rs 1 0 1),(11,.rs 2 0 l.length)]) (ml:=[(1,.cells [I p,I q,.z] 123),(2,.cells (replicate l.length .z) 92)]) eH ⟨rfl,congrArg (λc=>some (Row.cells c 92)) (aaN _),aa⟩).trans (.xq _ _ _ (bA [(1,.cells (aq ((p,q),[])) 123),(2,.cells (replicate l.length .z) 92)]) _ (λ_ _ _ _ _ h=>h) λi=>?_),aG (aA ?_)⟩
 .by_cases hi:i=1
  .subst hi;refine .inr ⟨_,aq ((p,q),[]),123,rfl,rfl,rfl,λk d d' hd jg=>?_⟩
   match k with
   |0=>cases hd;cases jg;exact λ_ _ _ _ h=>h
   |1=>cases hd;cases jg;exact λ_ _ _ _ h=>h
   |2=>cases hd;cases jg;exact DV
   |k+3=>cases hd
  .exact .inl ((aV _ _ hi).trans (aV _ _ hi).symm)
 refine SS ?_
 refine af (cw (λs=>∃ m nx ρ,aP prog s ⟨aD [(0,bS l),(10,.rs 1 0 1),(11,.rs 2 0 l.length)],m,nx⟩/\m 1=some (.cells (aq ((p,q),[])) 123)/\eW m nx 2 l.length 92 4 ρ (iz l.length (gH []))/\∀ i,i<l.length->ρ i≠1) (cT (α:=Nat×Mem×Nat)
  (λs=>⟨aD [(0,bS l),(10,.rs 1 0 1),(11,.rs 2 0 l.length),(12,I s.1)],s.2.1,s.2.2⟩)
  (λs=>s.1<=l.length/\s.2.1 1=some (.cells (aq ((p,q),[])) 123)/\∃ ρ,eW s.2.1 s.2.2 2 l.length 92 4 ρ (λi=>if i<s.1 then iz l.length (gH []) i else [])/\∀ i,i<s.1->ρ i≠1) (λs=>l.length - s.1) (0,bA [(1,.cells (aq ((p,q),[])) 123),(2,.cells (replicate l.length .z) 92)],3)
  (au eH) ⟨Nat.zero_le _,rfl,λ_=>0,(ZD (show 2<3 by decide) rfl).congr λi hi=>ai (Nat.not_lt_zero _),λi hi=>absurd hi (Nat.not_lt_zero _)⟩ ?_) ?_)
 .rintro⟨k,m,nx⟩ ⟨hk,uE,ρ,J,Kl⟩;dsimp only at hk uE J Kl ⊢;have aF:=J.row;have cW:=J.mY;have tC:(jL ρ (λi=>if i<k then iz l.length (gH []) i else []) l.length).length=l.length:=by simp
  have O8:=λ(iD:k<l.length) (m':Mem)=>J.EC (m':=m') (nx':=nx+1) (r:=nx) (l:=iz l.length (gH []) k) iD (Ms oG) (bY _) oG;rw[CQ] at O8;generalize jL ρ (λi=>if i<k then iz l.length (gH []) i else []) l.length=cs at*
  refine aQ ?_;refine af ⟨_,rfl,λh=>?_,λh=>?_⟩
  .have iD:k<l.length:=s0 h
   clear h;have O8:=O8 iD;refine gj (bh ?_);refine aI (wL rfl rfl (ay oG aF) V.h V.h) ak ⟨V.h,oG⟩ (dH (lT (d:=.rs _ _ _) (cs':=_) rfl rfl (ay oG aF) rfl rfl) ak (eO V.h V.h bk rfl) (af ?_));show aE _ _ _ _ _ _ _ _ _;refine ax ?_;refine af (aW (k+1,up (up m nx (some (.cells (eI l.length [B false]) 4))) 2 (some (.cells (cs.set k (.rs nx 0 l.length)) 92)),nx+1) (vf eH rfl) ⟨oM,?_,up ρ k nx,?_,λi hi=>?_⟩ oM)
   .exact ay oG uE
   .refine(O8 _ r9 ?_ λq hq Kc _=>?_).congr λi hi=>?_
    .rw[ajE _ k];exact ay oG r9
    .exact ay Kc (ay oG rfl)
    .dsimp only;by_cases e:i=k
     .subst e;rw[aw,bi oG]
     .rw[aV _ _ e];by_cases h:i<k
      .rw[bi h,bi oG]
      .rw[ai h,ai oG]
   .by_cases e:i=k
    .subst e;rw[aw];omega
    .rw[aV _ _ e];exact Kl i (by dsimp only at hi;omega)
  .have bt:¬ k<l.length:=s0 h
   have:k=l.length:=by omega
   subst this;exact⟨m,nx,ρ,au eH,uE,J.congr λi hi=>(bi hi).symm,Kl⟩
 rintro s ⟨m,nx,ρ,hg,uE,J,Kl⟩;have cW:=J.mY
 refine cw (λs=>(∃ m nx,aP prog s ⟨aD [],m,nx⟩)/\r=none) (LQ (α:=QS)
  (λs=>⟨aD [(0,bS l),(10,.rs s.j (s.pre.length*3) s.T.length),(11,.rs 2 0 l.length)],s.m,s.nx⟩)
  (QI l r p q ρ) (λs=>((bC l).length*(bC l).length - s.Z.length)*1000001+s.T.length) ⟨1,[],[((p,q),[])],[],m,nx⟩
  (hg.trans (au eH)) ⟨rv,oM,uE,J,oM,Kl,oS⟩ ?_) ?_
 .clear rv hg uE J Kl cW m nx;rintro⟨j,pre,T,Z,m,nx⟩ ⟨rv,l9,VJ,J,D',vF,UY⟩;dsimp only at rv l9 VJ J D' vF UY ⊢;have cW:=J.mY;have hZl:=rv.len ao;rw[dB] at hZl;have aF:=VJ;refine ax ?_;clear aF;refine af ⟨_,rfl,λh=>?_,λh=>?_⟩
  .cases T with
   |nil=>simp at h
   |cons x T=>
    clear h
    have hd:(((pre++x::T).flatMap aq).drop (pre.length*3)).take 3=aq x:=by
     rw[Ja,flatMap_cons];exact take_left' (Rn x)
    let⟨mo,si⟩:=rv.lt x (mem_cons_self ..);rw[dB] at mo si;have hxw:=rv.wl x (mem_cons_self ..);rw[length_cons] at UY;refine aA (SS ?_);refine aI (abU rfl rfl VJ Hx yv) aM ⟨Hs,oS⟩ (aI (gA rfl VJ ae2 yv hd) aM (gB t123 yv (by rw[BM];simp;omega)) (di (B5 Pf) aM t123 (dH (jV rfl rfl r9 rfl) aM (eO t123 yv oS (by rfl)) ?_)));obtain⟨m2,oI⟩:∃ m2,m2=up (up m nx (some (Row.cells [I 0,I 0,D.z] 123))) nx (some (Row.cells (aq x) 123)):=⟨_,rfl⟩
    have ju:∀ i,i<nx->m2 i=m i:=λi hi=>by rw[oI,aV _ _ oG,aV _ _ oG]
    have Xe:m2 nx=some (Row.cells (aq x) 123):=by rw[oI];exact aw _ _ _
    have cK:nU nx (aq x) (prog.cellsOf 123) m2 j=some (.cells ((pre++x::T).flatMap aq) 123):=vw ((ju j l9).trans VJ) oG (ahN GG _);have yW:eW (nU nx (aq x) (prog.cellsOf 123) m2) (nx+1) 2 l.length 92 4 ρ (iz l.length (gH Z)):=(J.ext (m':=m2) (nx':=nx+1) ju oG).fz (λi=>abT) oG λi hi M=>by have:=J.lt i hi M;omega
    refine af ⟨⟨aD [(0,bS l),(10,.rs j (pre.length*3) (x::T).length),(11,.rs 2 0 l.length),(13,.pt (aq x))],nU nx (aq x) (prog.cellsOf 123) m2,nx+1⟩,?_,?_⟩
    .subst oI;exact E' (i:=nx) (cs:=aq x) (e:=123) r9 ⟨rfl,ai oG,ai oG,bi rfl,aa⟩
    clear ju Xe oI VJ J;generalize nU nx (aq x) (prog.cellsOf 123) m2=m at*
    refine aA (SS ?_);refine aI (Y0 rfl cK Hx yv (a:=1) (b:=((x::T).length:Nat)) rfl rfl) aM ⟨⟨Hs,rfl⟩,oG,by rw[length_cons];omega,Int.le_refl _⟩ (aI (fR (v:=.rs _ _ _) rfl) aM aa (af ⟨⟨aD [(0,bS l),(10,.rs j ((pre++[x]).length*3) T.length),(11,.rs 2 0 l.length),(13,.pt (aq x))],m,nx+1⟩,au ⟨rfl,?_,rfl,rfl,aa⟩,?_⟩))
    .show D.rs j (pre.length*3+(1:Int).toNat*3) (((x::T).length:Int) - 1).toNat=D.rs j ((pre++[x]).length*3) T.length;congr 1
     .simp;omega
     .simp
    have cK:m j=some (.cells (((pre++[x])++T).flatMap aq) 123):=by rw[append_assoc];exact cK
    generalize pre++[x]=pre at cK ⊢;have M:∀ {A:Nat->Nat->Bool} {a:Nat},iz l.length A a≠[]:=λ{A a}=>Ms oG;have cW:=yW.mY;have aF:=yW.row;have fJ:=yW.rR x.1.1 mo M;have Kk:=yW.lt x.1.1 mo M;have Kl:=yW.ne x.1.1 mo M;have qS:=CQ (n:=l.length) (A:=gH Z) (a:=x.1.1);have aep:(jL ρ (iz l.length (gH Z)) l.length).length=l.length:=by simp
    let⟨Pe,kd⟩:=Bi (ρ:=ρ) (L:=iz l.length (gH Z)) mo;rw[sU M,qS] at kd;let⟨VV,fX⟩:=akT (A:=gH Z) (a:=x.1.1) si;have I9:gH Z x.1.1 x.1.2=decide (x.1∈Z):=rfl;generalize N1:gH Z x.1.1 x.1.2=ab at fX;rw[N1] at I9;refine aG (c6 iO ?_);refine ek ?_;refine ae3 ?_;refine avl ?_;refine bJ bM (cM rfl (λh=>rh (yP ?_)) λh=>cI (c6 iO ?_))
    .have h:ab=true:=h;rw[h] at I9;have cR:x.1∈Z:=s0 I9.symm
     exact aW ⟨j,pre,T,Z,m,nx+1⟩ (au eH) ⟨rv.skip cR,oM,cK,yW,D',vF,oM⟩ (by dsimp only;rw[length_cons];omega)
    have h:ab=false:=h;rw[h] at I9;have cR:x.1∉Z:=s0 I9.symm
    have DZ:=yW.put (l:=(iz l.length (gH Z) x.1.1).set x.1.2 (B true)) mo oS M;rw[anR,akG] at DZ;refine ek ?_;refine ae3 ?_;refine dH (lT (d:=.s (.bool _)) (cs':=_) rfl rfl fJ rfl rfl) ak (eO V.h V.h bk rfl) (bJ bM ?_);have Kc:up m (ρ x.1.1) (some (.cells ((iz l.length (gH Z) x.1.1).set x.1.2 (B true)) 4)) j=some (.cells ((pre++T).flatMap aq) 123):=ay (λe=>vF _ mo e.symm) cK;clear aF fJ qS kd fX cK yW aep N1;generalize up m (ρ x.1.1) (some (.cells ((iz l.length (gH Z) x.1.1).set x.1.2 (B true)) 4))=m at*
    let⟨f,hf⟩:=s3 l x.1.1 mo
    let⟨g,hg⟩:=s3 l x.1.2 si
    have p7:=Sy U hf hg;have zE:=aen (bD hf) (bD hg);have JF:=oO (dd (bD hf));have JG:=oO (dd (bD hg));have xL:(cU f.blocks).length<=1000000:=Nat.le_trans (zL f.blocks) (dd (bD hf));have EJ:=Kn hf;have Kd:=Kn hg;have PC:=λi y=>Ko (x:=y) (k:=i) U hf;have YS:=λi y=>Ko (x:=y) (k:=i) U hg;generalize cU f.blocks=xs at*
    generalize cU g.blocks=ys at*
    generalize vZ f g=o at*
    refine aG (c6 iO ?_);refine aX ?_;refine ax ?_;refine bJ bM (cM rfl (λh=>aG (al ?_)) λh=>cI (al ?_))
    .have h:o=false:=s0 h
     have hr:r=some x:=rv.hit cR ao λe=>by rw[p7.1 e] at h;cases h
     rw[hr];refine bh ?_;exact af (abo (bj (aY (bP (aY (VL rfl rfl rfl rfl))))))
    have h:o=true:=s0 h
    subst h;have nQ:=p7.2 rfl;have Zs:=rv.next cR U.B6 U.Ny ao nQ
    have hZ2:=Zs.len ao;rw[dB,length_append,length_singleton] at hZ2;have hl3:ys.length=xs.length:=by rw[Kd, <- U.Ny x.1.1 x.1.2 (by rw[dB];exact mo) (by rw[dB];exact si) nQ, <- EJ]
    rw[<- EJ] at Zs;have oO:=JF;refine ek ?_;apply er;clear oO;have oO:=JG;refine ek ?_;clear oO JF JG;refine af (aA (SS ?_))
    refine af (cT (α:=Nat×Nat×List PW×Mem×Nat)
     (λs=>⟨aD [(0,bS l),(10,.rs s.2.1 (s.2.2.1.length*3) (T++fD (bC l) x s.1).length),(11,.rs 2 0 l.length),(13,.pt (aq x)),(14,fT xs),(15,fT ys),(16,I s.1)],s.2.2.2.1,s.2.2.2.2⟩)
     (λs=>s.1<=xs.length/\s.2.1<s.2.2.2.2/\s.2.2.2.1 s.2.1=some (.cells ((s.2.2.1++(T++fD (bC l) x s.1)).flatMap aq) 123)/\eW s.2.2.2.1 s.2.2.2.2 2 l.length 92 4 ρ (iz l.length (gH (Z++[x.1])))/\s.2.1≠2/\∀ i,i<l.length->ρ i≠s.2.1) (λs=>xs.length - s.1) (0,j,pre,m,nx+1)
     (au ⟨rfl,?_,rfl,rfl,rfl,rfl,rfl,aa⟩) ⟨Nat.zero_le _,oM,?_,DZ,D',vF⟩ ?_)
    .show D.rs j (pre.length*3) T.length=D.rs j (pre.length*3) (T++fD (bC l) x 0).length;congr 1;simp[fD]
    .dsimp only;rw[Kc];simp[fD]
    clear Kc DZ l9 D' vF Kk Kl cW rv;rintro⟨k,j,pre,m,C⟩ ⟨hk,l9,Kc,J,D',vF⟩;dsimp only at hk l9 Kc J D' vF ⊢;have cW:=J.mY;refine aQ ?_;refine af ⟨_,rfl,λh=>?_,λh=>?_⟩
    .have iD:k<xs.length:=s0 h
     clear h;let⟨y,hy⟩:=s3 xs k iD
     let⟨zq,hz⟩:=s3 ys k oG
     let⟨YV,Zp⟩:=PC k y hy;let⟨hnz,hpz⟩:=YS k zq hz;have GL:=ss (l:=l) (s:=y);have GM:=ss (l:=l) (s:=zq);rw[YV] at GL;rw[hnz] at GM;have PA:T++fD (bC l) x (k+1)=(T++fD (bC l) x k)++[((((bC l).getD x.1.1 []).getD k 0,((bC l).getD x.1.2 []).getD k 0),x.2++[k])]:=by rw[Zt,append_assoc];rfl
     have lx:(fD (bC l) x k).length=k:=by simp[fD]
     generalize ((bC l).getD x.1.1 []).getD k 0=p1 at*
     generalize ((bC l).getD x.1.2 []).getD k 0=p2 at*
     have hQl:(T++fD (bC l) x k).length<=1+3600*1000000+1000000:=by rw[length_append,lx];omega
     generalize T++fD (bC l) x k=Q at*
     have dZ:((a7 x.2).map I).take ((a7 x.2).length*1)=(a7 x.2).map I:=by rw[Nat.mul_one];exact cX oS
     have ayF:(a7 x.2).length<=3600:=by simp;omega
     apply Bp (hD [(6,10),(6,11),(6,14),(12,14),(13,14),(6,15),(12,15),(13,15)]);have ss:=GL;refine ek ?_;clear ss;have ss:=GM;refine cz ?_;clear ss GL GM;refine di (pz (cs:=[]) dJ c3 z3 rfl rfl) aM ⟨rfl,oC,dI,oC⟩ (ag ?_);refine eT (eQ rfl r9 rfl dJ c3 (iH dZ) rfl) aM ⟨dI,rfl,oS,oC,oS,by unfold maxLen;omega,by rw[b3];omega,oS⟩ (SS ?_);refine di (pz (cs:=[_]) dJ c3 z3 rfl rfl) aM ⟨rfl,oC,dI,oC⟩ (eT (eQ rfl (ay oG r9) rfl dJ c3 (fZ r9 rfl) rfl) aM ⟨dI,rfl,bL rfl,oC,oS,by unfold maxLen;omega,by rw[b3];omega,oS⟩ (aI (Ln ae4 aeN Pf rfl rfl) aM ⟨t123,aeO⟩ (di (pz Hx yv Pf rfl rfl) aM ⟨rfl,oC,Hs,oC⟩ ?_)));have Ol:∀ {a b c d e f g},up (up (up (up (up (up (up m C a) C b) (C+1) c) (C+1+1) d) (C+1) e) (C+1+1+1) f) (C+1+1+1+1) g j=some (.cells ((pre++Q).flatMap aq) 123):=ay oG (ay oG (ay oG (ay oG (ay oG (ay oG (ay oG Kc))))));refine eT (eQ rfl Ol rfl Hx yv (fZ r9 rfl) rfl) aM ⟨Hs,rfl,bL rfl,oC,by rw[BM];simp;omega,by unfold maxLen;omega,by rw[ae5];omega,by simp;omega⟩ (aI (fR (v:=.rs _ _ _) rfl) aM aa (bJ bM ?_));show aE _ _ _ _ _ _ _ _ _;refine ax ?_;obtain⟨m3,uT⟩:∃ m3,m3=up (up (up (up (up (up (up (up (up m C (some (.cells [] 3))) C none) (C+1) (some (.cells ((a7 x.2).map I) 3))) (C+1+1) (some (.cells [I k] 3))) (C+1) none) (C+1+1+1) (some (.cells ((a7 x.2).map I++[I k]) 3))) (C+1+1+1+1) (some (.cells [I p1,I p2,.rs (C+1+1+1) 0 (0+(a7 x.2).length+1)] 123))) j none) (C+1+1+1+1+1) (some (.cells (((pre++Q).flatMap aq).drop (pre.length*3)++[I p1,I p2,.rs (C+1+1+1) 0 (0+(a7 x.2).length+1)]) 123)):=⟨_,rfl⟩
     have hold:∀ i,i<C->i≠j->m3 i=m i:=λi hi ma=>by
      rw[uT,aV _ _ oG,aV _ _ ma,aV _ _ oG,aV _ _ oG,aV _ _ oG,aV _ _ oG,aV _ _ oG,aV _ _ oG,aV _ _ oG]
     refine af (aW (k+1,C+1+1+1+1+1,[],nU (C+1+1+1) ((a7 x.2).map I++[I k]) (prog.cellsOf 3) m3,C+1+1+1+1+1+1) ?_ ⟨oM,oM,?_,?_,oM,λi hi=>?_⟩ oM)
     .have hr:m3 (C+1+1+1)=some (.cells ((a7 x.2).map I++[I k]) 3):=by rw[uT];exact ay oG (ay oG (ay oG r9))
      clear hold Ol Kc J;subst uT;refine E' (i:=C+1+1+1) (cs:=(a7 x.2).map I++[I k]) (e:=3) hr ⟨rfl,?_,yp oG,rfl,rfl,rfl,rfl,aa⟩;refine(yp oG).trans ?_;show D.rs (C+1+1+1+1+1) 0 _=D.rs (C+1+1+1+1+1) 0 (T++fD (bC l) x (k+1)).length;rw[PA];congr 1;simp
     .have cR:=ahN (X:=λk=>k=C+1+1+1) GG Q (e:=123) (C+1+1+1) ((a7 x.2).map I++[I k]) (prog.cellsOf 3) rfl;simp only[Row.sub,Row.cells.injEq,and_true] at cR;dsimp only;rw[PA];rw[nU,ai oG,uT,aw];simp only[Option.map_some,Row.sub];rw[Ja,map_append,cR,nil_append,flatMap_append]
      have e2:sub (dq (C+1+1+1) ((a7 x.2).map I++[I k]) (prog.cellsOf 3)) (.rs (C+1+1+1) 0 (0+(a7 x.2).length+1))=aU (a7 (x.2++[k])):=by
       rw[lS (by rw[c3];simp)];simp[aU,a7]
      have e3:∀ n:Int,sub (dq (C+1+1+1) ((a7 x.2).map I++[I k]) (prog.cellsOf 3)) (I n)=I n:=λ_=>rfl;simp only[map_cons,map_nil,e2,e3];simp[aq]
     .have M:∀ {A:Nat->Nat->Bool} {a:Nat},iz l.length A a≠[]:=λ{A a}=>Ms oG;exact(J.frame (m':=m3) (nx':=C+1+1+1+1+1+1) oG (hold 2 cW oG) λi hi M=>hold _ (J.lt i hi M) (vF i hi)).fz (λi=>abT) oG λi hi M=>by have:=J.lt i hi M;omega
     .have:=J.lt i hi (Ms oG);dsimp only;omega
    .have bt:¬ k<xs.length:=s0 h
     have:k=xs.length:=by omega
     subst this;refine aW ⟨j,pre,T++fD (bC l) x xs.length,Z++[x.1],m,C⟩ (au eH) ⟨Zs,l9,Kc,J,D',vF,?_⟩ ?_
     .dsimp only;rw[length_append,length_append,length_singleton];have:(fD (bC l) x xs.length).length=xs.length:=by simp[fD]
      omega
     .dsimp only;rw[length_append,length_append,length_singleton,length_cons,dB];have:(fD (bC l) x xs.length).length=xs.length:=by simp[fD]
      omega
  .cases T with
   |nil=>exact⟨⟨m,nx,au aa⟩,rv.nil⟩
   |cons x T=>simp at h
 .rintro s ⟨⟨m,nx,hg⟩,hr⟩;rw[hr];refine⟨_,hg,al ?_⟩;refine ax ?_;exact af (bj (VL rfl rfl rfl rfl))
def ajn(l:List az)(a b:Int):(∃ x,ll l a b=[aU x,B true,I 0])\/∃ e,ll l a b=[.z,B false,I e]:=by
 unfold ll;split
 .split
  .split
   .exact .inl ⟨_,rfl⟩
   .exact .inr ⟨_,rfl⟩
  .exact .inr ⟨_,rfl⟩
 .exact .inr ⟨_,rfl⟩
def ae6{x:List Int}:aH prog 39 [aU x,aU x] (B true):=by
 have h:=VR (a:=x) (b:=x)
 rwa[decide_eq_true rfl] at h
def avm:aH prog 39 [.z,.z] (B true):=by
 refine Zy (ae6 (x:=[])) rfl (λk d d' h1 h2=>?_) (.cons .z (.cons .z .nil))
 match k with
 |0=>simp at h1 h2;subst h1 h2;exact DV
 |1=>simp at h1 h2;subst h1 h2;exact DV
 |k+2=>simp at h1
def k10{l:List az}{a b:Int}{way:List Int}(hs:∀ f∈l,0<=f.result):aH prog 10 [bS l,I a,I b,aU way] (B true):=by
 have O9:=O9 (l:=l);refine bx (fo f10) (.cons (kV l) (.cons (.s _) (.cons (.s _) (.cons (dP way) .nil)))) (Tr.s _) ?_;rw[avo];have C:=aaI (l:=l);have X:=λ(h:vY l=true)=>ao4 h hs;generalize vY l=fw at*
 refine ws (SS ?_);refine af (aG (al (cJ ?_)));refine af (cM rfl (λh=>aG (al ?_)) λh=>cI (al ?_))
 .refine cl Ks ?_;refine SS ?_;exact af (de (aC rfl rfl))
 have hb:fw=true/\way.length<=30:=by
  revert h;cases fw<;>simp<;>omega
 obtain⟨rfl,hw⟩:=hb;clear h O9;have C:=C rfl;have M:=X rfl;have EX:=EX (l:=l) (a:=a) (b:=b) oG;have GD:=GD (a:=a) (b:=b) M;have Gk:=Gk (l:=l) (a:=a) (b:=b) (way:=way) oG;have Gm:=Gm (a:=a) (b:=b) (way:=way) M oG;have U:=ajn l a b;generalize zC l a b way=cc at*
 generalize hP l a b=e at*
 generalize ll l a b=ap at*
 rcases U with⟨x,rfl⟩|⟨J,rfl⟩
 .have VR:=ae6 (x:=x);have iy:(e==e)=true:=by simp
  cases cc
  .refine ax ?_;refine cl EX ?_;refine ek ?_;refine er (ax ?_);refine cl GD ?_;refine ek ?_;refine er (aQ ?_);refine cl Gk ?_;refine bh ?_;refine er (aQ ?_);refine cl Gm ?_;refine bh ?_;refine er (cl Ks ?_);refine ax ?_;refine gc VR ?_;refine aX ?_;refine aX ?_;refine aQ ?_;exact af (bj (aC rfl rfl))
  .refine ax ?_;refine cl EX ?_;refine ek ?_;refine er (ax ?_);refine cl GD ?_;refine ek ?_;refine er (aQ ?_);refine cl Gk ?_;refine bh ?_;refine er (aQ ?_);refine cl Gm ?_;refine bh ?_;refine er (cl Ks ?_);refine ax ?_;refine gc VR ?_;refine aX ?_;refine aX ?_;refine aQ ?_;exact af (bj (aC rfl rfl))
 .have VR:=avm;have iy:(e==e)=true:=by simp
  have Nt:(J==J)=true:=by simp
  cases cc
  .refine ax ?_;refine cl EX ?_;refine ek ?_;refine er (ax ?_);refine cl GD ?_;refine ek ?_;refine er (aQ ?_);refine cl Gk ?_;refine bh ?_;refine er (aQ ?_);refine cl Gm ?_;refine bh ?_;refine er (cl Ks ?_);refine ax ?_;refine gc VR ?_;refine aX ?_;refine aX ?_;refine aQ ?_;exact af (bj (aC rfl rfl))
  .refine ax ?_;refine cl EX ?_;refine ek ?_;refine er (ax ?_);refine cl GD ?_;refine ek ?_;refine er (aQ ?_);refine cl Gk ?_;refine bh ?_;refine er (aQ ?_);refine cl Gm ?_;refine bh ?_;refine er (cl Ks ?_);refine ax ?_;refine gc VR ?_;refine aX ?_;refine aX ?_;refine aQ ?_;exact af (bj (aC rfl rfl))
end Go.Abs
end
