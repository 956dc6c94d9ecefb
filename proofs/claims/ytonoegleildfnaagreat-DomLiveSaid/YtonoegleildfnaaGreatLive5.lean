/- Part 5 of the proof; the last part says what is proved. -/
import Derived.Test.YtonoegleildfnaaGreatLive4
section
open Go Go.Abs Go.Proofs Go.Argus
namespace Go.Argus
theorem cy{l:List Int}{n c:Int}(h:(n==c)=true)(hm:c∈l):B (n==c)=B (aG l n):=by
 have:aG l n=true:=List.any_eq_true.2 ⟨c,hm,h⟩;rw[h,this]
end Go.Argus
namespace Go.Proofs.Tryz.K
set_option maxRecDepth 10000
theorem lJ{x:aW}:PCall prog 125 [.agg (a8 x)] (I (bM x)):=by
 refine aX mixed SA (by rw[af8];rfl) (.cons (.agg (mW x)) .nil) (Tr.s _) ?_;rw[af9,af'];refine av ?_;refine ag ?_;refine ab (aJ (bp [(0,a8 x,66)] eH (l:=[(1,.pt (a8 x))]) eH) (aD (an ?_)));refine ag ?_;refine ab (lW ?_)
 have J:bM x=if aG (kG++mU) x.op=true then x.to else -1:=by
  unfold bM;have:aG (kG++mU) x.op=(aG kG x.op||aG mU x.op):=List.any_append;rw[this];cases aG kG x.op<;>cases aG mU x.op<;>rfl
 refine dB (fun s=>Ghost prog s ⟨ay [(1,.pt (a8 x)),(4,U8 x.op),(5,B (aG (kG++mU) x.op))],fun _=>none,1⟩) (an ?_) fun s hg=>⟨_,hg,?_⟩
 .refine ag ?_;refine ab (au rfl (fun h=>aZ (ap ⟨rfl,rfl,cy h oC,trivial⟩)) fun e1=>an ?_);refine ag ?_;refine ab (au rfl (fun h=>aZ (ap ⟨rfl,rfl,cy h oC,trivial⟩)) fun e2=>an ?_);refine ag ?_;refine ab (au rfl (fun h=>aZ (ap ⟨rfl,rfl,cy h oC,trivial⟩)) fun e3=>an ?_);refine ag ?_;refine ab (au rfl (fun h=>aZ (ap ⟨rfl,rfl,cy h oC,trivial⟩)) fun e4=>an ?_);refine ag ?_;refine ab (au rfl (fun h=>aZ (ap ⟨rfl,rfl,cy h oC,trivial⟩)) fun e5=>an ?_);refine ag ?_;refine ab (au rfl (fun h=>aZ (ap ⟨rfl,rfl,cy h oC,trivial⟩)) fun e6=>an ?_);refine ag ?_;refine ab (au rfl (fun h=>aZ (ap ⟨rfl,rfl,cy h oC,trivial⟩)) fun e7=>an ?_);refine ag ?_;refine ab (au rfl (fun h=>aZ (ap ⟨rfl,rfl,cy h oC,trivial⟩)) fun e8=>an ?_);refine ag ?_;refine ab (au rfl (fun h=>aZ (ap ⟨rfl,rfl,cy h oC,trivial⟩)) fun e9=>an ?_);refine ag ?_;refine ab (au rfl (fun h=>aZ (ap ⟨rfl,rfl,cy h oC,trivial⟩)) fun U=>an ?_);refine ag ?_;refine ab (au rfl (fun h=>aZ (ap ⟨rfl,rfl,cy h oC,trivial⟩)) fun tZ=>an ?_);refine ag ?_;refine ab (au rfl (fun h=>aZ (ap ⟨rfl,rfl,cy h oC,trivial⟩)) fun ua=>an ?_);refine ag ?_;refine ab (au rfl (fun h=>aZ (ap ⟨rfl,rfl,cy h oC,trivial⟩)) fun xQ=>an ?_);refine ag ?_;refine ab (au rfl (fun h=>aZ (ap ⟨rfl,rfl,cy h oC,trivial⟩)) fun CE=>an ?_);refine ag ?_;refine ab (au rfl (fun h=>aZ (ap ⟨rfl,rfl,cy h oC,trivial⟩)) fun C=>an ?_);refine ag ?_;refine ab (au rfl (fun h=>aZ (ap ⟨rfl,rfl,cy h oC,trivial⟩)) fun ud=>an ?_);refine ag ?_;refine ab (au rfl (fun h=>aZ (ap ⟨rfl,rfl,cy h oC,trivial⟩)) fun ue=>an ?_);refine ag ?_;refine ab (au rfl (fun h=>aZ (ap ⟨rfl,rfl,cy h oC,trivial⟩)) fun uf=>an ?_);refine ag ?_;refine ab (au rfl (fun h=>aZ (ap ⟨rfl,rfl,cy h oC,trivial⟩)) fun ug=>an ?_);refine ag ?_;refine ab (au rfl (fun h=>aZ (ap ⟨rfl,rfl,cy h oC,trivial⟩)) fun xR=>an ?_);refine ag ?_;refine ab (au rfl (fun h=>aZ (ap ⟨rfl,rfl,cy h oC,trivial⟩)) fun X=>j9 ?_);refine ag ?_;refine ab (ap ⟨rfl,rfl,?_,trivial⟩);show D.s (.bool (x.op==37))=_;simp only[aG,kG,mU,List.cons_append,List.nil_append,List.any_cons,List.any_nil,e1,e2,e3,e4,e5,e6,e7,e8,e9,U,tZ,ua,xQ,CE,C,ud,ue,uf,ug,xR,X,Bool.false_or,Bool.or_false]
 refine au rfl (fun h1=>an ?_) fun h1=>lx (an ?_)
 .refine aw ?_;refine ab (aU (bu (aQ (ax rfl ?_))));rw[J,if_pos h1];rfl
 .refine SS ?_;refine ab (ax rfl ?_);rw[J,if_neg (by simp[h1])];rfl
theorem xd{x:Argus.End}:PCall prog 146 [.agg (aT x)] (I (dp x)):=by
 have C:∀ a∈[D.agg (aT x)],Tr a:=.cons (.agg (ix x)) .nil;have lJ:=lJ (x:=x.ins);refine aX mixed SB (by rw[aga];rfl) C (Tr.s _) ?_;rw[agb,agc];refine av ?_;refine ag ?_;refine ab (aJ (bp [(0,aT x,69)] eH (l:=[(1,.pt (aT x))]) eH) (aD (an ?_)));refine ag ?_;refine ab (lW (an ?_));refine ag ?_;refine ab (au rfl (fun h1=>?_) fun h1=>?_)
 .have h1:x.kind=5:=by simpa using h1
  refine ws ?_;refine ag ?_;refine cl lJ ?_;refine SS ?_;refine ab (aU (bu (aQ (ax (d:=I (bM x.ins)) rfl ?_))));simp[dp,h1]
 have h1:¬ x.kind=5:=by simpa using h1
 refine dB (fun s=>Ghost prog s ⟨ay [(1,.pt (aT x)),(4,U8 x.kind),(10,B (aG [6,7] x.kind))],fun _=>none,1⟩) (an ?_) fun s hg=>⟨_,hg,?_⟩
 .refine ag ?_;refine ab (au rfl (fun h=>aZ (ap ⟨rfl,rfl,cy h oC,trivial⟩)) fun e6=>j9 ?_);refine ag ?_;refine ab ?_;refine ap ⟨rfl,rfl,?_,trivial⟩;show D.s (.bool (x.kind==7))=_;simp[aG,e6]
 refine au rfl (fun h2=>?_) fun h2=>?_
 .refine ws ?_;refine aw ?_;refine ab (aU (bu (aQ (ax (d:=I x.a) rfl ?_))));simp[dp,h1,h2]
 refine ws ?_;refine ag ?_;refine ab (au rfl (fun h3=>?_) fun h3=>?_)
 .have h3:x.kind=8:=by simpa using h3
  refine ws ?_;refine aw ?_;refine ab (aU (bu (aQ (ax (d:=I x.b) rfl ?_))));simp[dp,h2,h3];simp[aG]
 have h3:¬ x.kind=8:=by simpa using h3
 refine lx (an ?_);refine SS ?_;refine ab (ax (d:=I (-1)) rfl ?_);simp[dp,h1,h2,h3]
theorem od{x:aW}(hx:x.op=10\/x.op=38->x.args.length<=1000):PCall prog 123 [.agg (a8 x)] (az (bK x)):=by
 have X:∀ a∈[D.agg (a8 x)],Tr a:=.cons (.agg (mW x)) .nil;refine aX mixed SC (by rw[agd];rfl) X (cI _) ?_;rw[age,agf];refine av ?_;refine ag ?_;refine ab (aJ (bp [(0,a8 x,66)] eH (l:=[(1,.pt (a8 x))]) eH) (aD (an ?_)));refine ag ?_;refine ab (lW ?_);refine dB (fun s=>Ghost prog s ⟨ay [(1,.pt (a8 x)),(4,U8 x.op),(5,B (aG l5 x.op))],fun _=>none,1⟩) (an ?_) fun s hg=>⟨_,hg,?_⟩
 .refine ag ?_;refine ab (au rfl (fun h=>aZ (ap ⟨rfl,rfl,cy h oC,trivial⟩)) fun e2=>an ?_);refine ag ?_;refine ab (au rfl (fun h=>aZ (ap ⟨rfl,rfl,cy h oC,trivial⟩)) fun e8=>an ?_);refine ag ?_;refine ab (au rfl (fun h=>aZ (ap ⟨rfl,rfl,cy h oC,trivial⟩)) fun tZ=>an ?_);refine ag ?_;refine ab (au rfl (fun h=>aZ (ap ⟨rfl,rfl,cy h oC,trivial⟩)) fun ua=>an ?_);refine ag ?_;refine ab (au rfl (fun h=>aZ (ap ⟨rfl,rfl,cy h oC,trivial⟩)) fun xQ=>an ?_);refine ag ?_;refine ab (au rfl (fun h=>aZ (ap ⟨rfl,rfl,cy h oC,trivial⟩)) fun CF=>an ?_);refine ag ?_;refine ab (au rfl (fun h=>aZ (ap ⟨rfl,rfl,cy h oC,trivial⟩)) fun CG=>an ?_);refine ag ?_;refine ab (au rfl (fun h=>aZ (ap ⟨rfl,rfl,cy h oC,trivial⟩)) fun C=>j9 ?_);refine ag ?_;refine ab ?_;refine ap ⟨rfl,rfl,?_,trivial⟩;show D.s (.bool (x.op==36))=_;simp[aG,l5,e2,e8,tZ,ua,xQ,CF,CG,C]
 refine au rfl (fun h1=>?_) fun h1=>?_
 .refine av ?_;refine aF ?_;refine ab (aJ (bp [(1,([x.a]).map I,3)] eH (l:=[(2,az ([x.a]))]) ⟨jO c3 rfl,trivial⟩) (aU (bu (aQ (ax (d:=az ([x.a])) rfl ?_)))));exact congrArg az (by unfold bK;rw[if_pos h1])
 refine dB (fun s=>Ghost prog s ⟨ay [(1,.pt (a8 x)),(4,U8 x.op),(18,B (aG po x.op))],fun _=>none,1⟩) (an ?_) fun s hg=>⟨_,hg,?_⟩
 .refine ag ?_;refine ab (au rfl (fun h=>aZ (ap ⟨rfl,rfl,cy h oC,trivial⟩)) fun e3=>an ?_);refine ag ?_;refine ab (au rfl (fun h=>aZ (ap ⟨rfl,rfl,cy h oC,trivial⟩)) fun e4=>an ?_);refine ag ?_;refine ab (au rfl (fun h=>aZ (ap ⟨rfl,rfl,cy h oC,trivial⟩)) fun e5=>an ?_);refine ag ?_;refine ab (au rfl (fun h=>aZ (ap ⟨rfl,rfl,cy h oC,trivial⟩)) fun e6=>an ?_);refine ag ?_;refine ab (au rfl (fun h=>aZ (ap ⟨rfl,rfl,cy h oC,trivial⟩)) fun e7=>an ?_);refine ag ?_;refine ab (au rfl (fun h=>aZ (ap ⟨rfl,rfl,cy h oC,trivial⟩)) fun J=>an ?_);refine ag ?_;refine ab (au rfl (fun h=>aZ (ap ⟨rfl,rfl,cy h oC,trivial⟩)) fun ud=>an ?_);refine ag ?_;refine ab (au rfl (fun h=>aZ (ap ⟨rfl,rfl,cy h oC,trivial⟩)) fun ue=>an ?_);refine ag ?_;refine ab (au rfl (fun h=>aZ (ap ⟨rfl,rfl,cy h oC,trivial⟩)) fun uf=>an ?_);refine ag ?_;refine ab (au rfl (fun h=>aZ (ap ⟨rfl,rfl,cy h oC,trivial⟩)) fun ug=>an ?_);refine ag ?_;refine ab (au rfl (fun h=>aZ (ap ⟨rfl,rfl,cy h oC,trivial⟩)) fun xR=>an ?_);refine ag ?_;refine ab (au rfl (fun h=>aZ (ap ⟨rfl,rfl,cy h oC,trivial⟩)) fun U=>j9 ?_);refine ag ?_;refine ab ?_;refine ap ⟨rfl,rfl,?_,trivial⟩;show D.s (.bool (x.op==37))=_;simp[aG,po,e3,e4,e5,e6,e7,J,ud,ue,uf,ug,xR,U]
 refine au rfl (fun h2=>?_) fun h2=>?_
 .refine av ?_;refine bD ?_;refine ab (aJ (bp [(1,([x.a,x.b]).map I,3)] eH (l:=[(2,az ([x.a,x.b]))]) ⟨jO c3 rfl,trivial⟩) (aU (bu (aQ (ax (d:=az ([x.a,x.b])) rfl ?_)))));exact congrArg az (by unfold bK;rw[if_neg (by simp[h1]),if_pos h2])
 refine ws ?_;refine ag ?_;refine ab (au rfl (fun h3=>?_) fun h3=>?_)
 .have h3:x.op=10:=by simpa using h3
  have hl:=hx (.inl h3);have qN:(x.args.map I).take (x.args.length*1)=x.args.map I:=List.take_of_length_le oS;refine av ?_;refine aV ?_;refine ab (aJ (bp [(2,x.args.map I,3)] eH (l:=[(2,az x.args)]) ⟨?_,trivial⟩) (aU (bu (aQ (ax (d:=az x.args) rfl ?_)))))
  .show qY _ [(2,_,3)] (.rs 2 0 (0+x.args.length))=_;refine(jO c3 (es:=x.args.map I) (List.take_of_length_le oS)).trans ?_;rw[Nat.zero_add]
  exact congrArg az (by unfold bK;rw[if_neg (by simp[h1]),if_neg (by simp[h2]),if_pos h3])
 have h3:¬ x.op=10:=by simpa using h3
 refine ws ?_;refine ag ?_;refine ab (au rfl (fun h4=>?_) fun h4=>?_)
 .have h4:x.op=38:=by simpa using h4
  have hl:=hx (.inr h4);have qN:(x.args.map I).take (x.args.length*1)=x.args.map I:=List.take_of_length_le oS;refine av ?_;refine aL ?_;refine ab (aJ (bp [(2,(x.a::x.b::x.args).map I,3)] eH (l:=[(2,az (x.a::x.b::x.args))]) ⟨?_,trivial⟩) (aU (bu (aQ (ax (d:=az (x.a::x.b::x.args)) rfl ?_)))))
  .show qY _ [(2,_,3)] (.rs 2 0 (2+x.args.length))=_;refine(jO c3 (es:=(x.a::x.b::x.args).map I) (List.take_of_length_le oP)).trans ?_;rw[Nat.add_comm];rfl
  .exact congrArg az (by unfold bK;rw[if_neg (by simp[h1]),if_neg (by simp[h2]),if_neg h3,if_pos h4])
 have h4:¬ x.op=38:=by simpa using h4
 refine lx (av ?_);refine SS ?_;refine ab (aJ (v9 (n0:=2) rfl) (ax (d:=az []) rfl ?_));exact congrArg az (by unfold bK;rw[if_neg (by simp[h1]),if_neg (by simp[h2]),if_neg h3,if_neg h4])
theorem tH{x:Argus.End}(hx:x.kind=5->x.ins.op=10\/x.ins.op=38->x.ins.args.length<=1000)(hy:x.kind=6\/x.kind=7->x.args.length<=1000):PCall prog 128 [.agg (aT x)] (az (bJ x)):=by
 have C:∀ a∈[D.agg (aT x)],Tr a:=.cons (.agg (ix x)) .nil;refine aX mixed SD (by rw[agh];rfl) C (cI _) ?_;rw[agi,agj];refine av ?_;refine ag ?_;refine ab (aJ (bp [(0,aT x,69)] eH (l:=[(1,.pt (aT x))]) eH) (aD (an ?_)));refine ag ?_;refine ab (lW ?_);refine dB (fun s=>Ghost prog s ⟨ay [(1,.pt (aT x)),(4,U8 x.kind),(5,B (aG [2,8,9] x.kind))],fun _=>none,1⟩) (an ?_) fun s hg=>⟨_,hg,?_⟩
 .refine ag ?_;refine ab (au rfl (fun h=>aZ (ap ⟨rfl,rfl,cy h oC,trivial⟩)) fun e2=>an ?_);refine ag ?_;refine ab (au rfl (fun h=>aZ (ap ⟨rfl,rfl,cy h oC,trivial⟩)) fun e8=>j9 ?_);refine ag ?_;refine ab ?_;refine ap ⟨rfl,rfl,?_,trivial⟩;show D.s (.bool (x.kind==9))=_;simp[aG,e2,e8]
 refine au rfl (fun h1=>?_) fun h1=>?_
 .refine av ?_;refine aF ?_;refine ab (aJ (bp [(1,([x.a]).map I,3)] eH (l:=[(2,az ([x.a]))]) ⟨jO c3 rfl,trivial⟩) (aU (bu (aQ (ax (d:=az ([x.a])) rfl ?_)))));exact congrArg az (by unfold bJ;rw[if_pos h1])
 refine ws ?_;refine ag ?_;refine ab (au rfl (fun h2=>?_) fun h2=>?_)
 .have h2:x.kind=3:=by simpa using h2
  refine aD (an ?_);refine aw ?_;refine ab (bC rfl (fun h3=>?_) fun h3=>cx (av ?_))
  .have h3:x.a= -1:=by simpa using h3
   refine aD (av ?_);refine SS ?_;refine ab (aJ (v9 (n0:=2) rfl) (dx (bu (aQ (ax (d:=az []) rfl ?_)))));exact congrArg az (by unfold bJ;rw[if_neg (by simp[h1]),if_pos h2,if_neg (by simp[h3])])
  .have h3:¬ x.a= -1:=by simpa using h3
   refine aF ?_;refine ab (aJ (bp [(1,([x.a]).map I,3)] eH (l:=[(2,az ([x.a]))]) ⟨jO c3 rfl,trivial⟩) (aU (bu (aQ (ax (d:=az ([x.a])) rfl ?_)))));exact congrArg az (by unfold bJ;rw[if_neg (by simp[h1]),if_pos h2,if_pos h3])
 have h2:¬ x.kind=3:=by simpa using h2
 refine ws ?_;refine ag ?_;refine ab (au rfl (fun h3=>?_) fun h3=>?_)
 .have h3:x.kind=5:=by simpa using h3
  have od:=od (x:=x.ins) (hx h3);refine ws ?_;refine ag ?_;refine cl od ?_;refine SS ?_;refine ab (aU (bu (aQ (ax (d:=az (bK x.ins)) rfl ?_))));exact congrArg az (by unfold bJ;rw[if_neg (by simp[h1]),if_neg h2,if_pos h3])
 have h3:¬ x.kind=5:=by simpa using h3
 refine dB (fun s=>Ghost prog s ⟨ay [(1,.pt (aT x)),(4,U8 x.kind),(25,B (aG [6,7] x.kind))],fun _=>none,1⟩) (an ?_) fun s hg=>⟨_,hg,?_⟩
 .refine ag ?_;refine ab (au rfl (fun h=>aZ (ap ⟨rfl,rfl,cy h oC,trivial⟩)) fun e6=>j9 ?_);refine ag ?_;refine ab ?_;refine ap ⟨rfl,rfl,?_,trivial⟩;show D.s (.bool (x.kind==7))=_;simp[aG,e6]
 refine au rfl (fun h4=>?_) fun h4=>?_
 .have h5:x.kind=6\/x.kind=7:=by simpa[aG] using h4
  have hl:=hy h5;have qN:(x.args.map I).take (x.args.length*1)=x.args.map I:=List.take_of_length_le oS;refine av ?_;refine aV ?_;refine ab (aJ (bp [(2,x.args.map I,3)] eH (l:=[(2,az x.args)]) ⟨?_,trivial⟩) (aU (bu (aQ (ax (d:=az x.args) rfl ?_)))))
  .show qY _ [(2,_,3)] (.rs 2 0 (0+x.args.length))=_;refine(jO c3 (es:=x.args.map I) (List.take_of_length_le oS)).trans ?_;rw[Nat.zero_add]
  exact congrArg az (by unfold bJ;rw[if_neg (by simp[h1]),if_neg h2,if_neg h3,if_pos h4])
 refine lx (av ?_);refine SS ?_;refine ab (aJ (v9 (n0:=2) rfl) (ax (d:=az []) rfl ?_));exact congrArg az (by unfold bJ;rw[if_neg (by simp[h1]),if_neg h2,if_neg h3,if_neg (by simp[h4])])
end Go.Proofs.Tryz.K
end
namespace Go.Argus
open Go Go.Abs
open Go.Proofs.Tryz.K (nextR)
structure EN(R n:Nat)(x:aW):Prop where
 r:∀ r∈bK x,∃ i:Nat,i<R/\r=i
 s:x.op=17->∃ i:Nat,R+i<n/\x.n=i
 p:x.op=19->∀ r∈x.args,∃ i:Nat,i<R/\r=i
theorem j5{l:List Int}{r:Int}(h:gU l r):∃ i:Nat,i<l.length/\r=i:=⟨r.toNat,by unfold gU at h;omega,by unfold gU at h;omega⟩
theorem OQ{f:aA}{b ah:Int}{x:aW}(hs:∀ k∈f.aP,k≠0)(h:di f b ah x=true):xf f.aj.length (f.aj.length+f.aP.length) x/\EN f.aj.length (f.aj.length+f.aP.length) x/\(x.op=19->(x.args.length:Int)=ah):=by
 have k1:∀ {r:Int},bg f r 119=true->∃ i:Nat,i<f.aj.length/\r=i:=fun {r} h=>j5 (jH fun e=>by rw[sd,e] at h;simp[aM] at h);have U:∀ {r:Int},bg f r 114=true->∃ i:Nat,i<f.aj.length/\r=i:=fun {r} h=>j5 (jH fun e=>by rw[wS,e] at h;simp[aM] at h);have k3:∀ {r:Int},bg f r 105=true->∃ i:Nat,i<f.aj.length/\r=i:=fun {r} h=>j5 (jH fun e=>by rw[By,e] at h;simp[aM] at h);have k4:∀ {r:Int},bg f r 118=true->∃ i:Nat,i<f.aj.length/\r=i:=fun {r} h=>j5 (mS h)
 have X:∀ {a b:Int},je f a b=true->(∃ i:Nat,i<f.aj.length/\a=i)/\∃ i:Nat,i<f.aj.length/\b=i:=fun {a b} h=>by
  simp only[je,Bool.and_eq_true] at h;exact⟨j5 (mS h.1),j5 (mS h.2.1)⟩
 have k6:∀ {l:List Int},fm f.aj l=true->∀ r∈l,∃ i:Nat,i<f.aj.length/\r=i:=fun {l} h r hr=>j5 (vY h r hr)
 have k7:∀ {r n:Int},kO f.aj f.aP r n=true->(∃ i:Nat,i<f.aj.length/\r=i)/\∃ i:Nat,f.aj.length+i<f.aj.length+f.aP.length/\n=i:=fun {r n} h=>by
  obtain⟨h1,h2,h3⟩:=Hf hs h;exact⟨j5 h1,n.toNat,by omega,by omega⟩
 obtain⟨op,to,a,C,n,args⟩:=x;unfold di at h;dsimp only at h
 have fin:∀ {W:Prop} {Rs:List Int},(bM ⟨op,to,a,C,n,args⟩= -1\/∃ i:Nat,i<f.aj.length/\bM ⟨op,to,a,C,n,args⟩=i)->bK ⟨op,to,a,C,n,args⟩=Rs->(∀ r∈Rs,∃ i:Nat,i<f.aj.length/\r=i)->
  op≠17->op≠18->op≠19->xf f.aj.length (f.aj.length+f.aP.length) ⟨op,to,a,C,n,args⟩/\EN f.aj.length (f.aj.length+f.aP.length) ⟨op,to,a,C,n,args⟩/\(op=19->(args.length:Int)=ah):=fun {W Rs} h1 h2 h3 e1 e2 e3=>
  ⟨⟨h1,fun e=>absurd e e2⟩,⟨by rw[h2];exact h3,fun e=>absurd e e1,fun e=>absurd e e3⟩,fun e=>absurd e e3⟩
 by_cases h1:op=1
 .subst h1;simp[Bool.and_eq_true] at h;exact fin (W:=True) (Rs:=[]) (.inr (k1 h.2.1)) rfl oS oC oC oC
 by_cases h2:op=2
 .subst h2;simp[Bool.and_eq_true] at h;exact fin (W:=True) (Rs:=[a]) (.inr (X h.2).1) rfl (by simpa using(X h.2).2) oC oC oC
 by_cases h3:op=3\/op=4\/op=6\/op=7
 .have J:bg f to 119=true/\bg f a 119=true/\bg f C 119=true:=by
   rcases h3 with rfl|rfl|rfl|rfl<;>(simp[aG,Bool.and_eq_true] at h;exact h.2)
  have hr:∀ r∈[a,C],∃ i:Nat,i<f.aj.length/\r=i:=by
   intro r hr;simp at hr;rcases hr with rfl|rfl
   .exact k1 J.2.1
   .exact k1 J.2.2
  rcases h3 with rfl|rfl|rfl|rfl<;>exact fin (W:=True) (Rs:=[a,C]) (.inr (k1 J.1)) rfl hr oC oC oC
 by_cases h5:op=5
 .subst h5;simp[aG,Bool.and_eq_true] at h;refine fin (W:=True) (Rs:=[a,C]) (.inr (k1 h.2.1)) rfl ?_ oC oC oC;intro r hr;simp at hr;rcases hr with rfl|rfl
  .exact(X h.2.2).1
  .exact(X h.2.2).2
 by_cases h8:op=8
 .subst h8;simp[aG,Bool.and_eq_true] at h;exact fin (W:=True) (Rs:=[a]) (.inr (k1 h.2.1)) rfl (by simpa using k1 h.2.2) oC oC oC
 by_cases h9:op=9
 .subst h9;simp[aG,Bool.and_eq_true] at h;exact fin (W:=True) (Rs:=[]) (.inr (U h.2.1)) rfl oS oC oC oC
 by_cases lS:op=10
 .subst lS;simp[aG,Bool.and_eq_true] at h;exact fin (W:=True) (Rs:=args) (.inr (U h.2.1)) rfl (k6 h.2.2.2.2) oC oC oC
 by_cases ru:op=11
 .subst ru;simp[aG,Bool.and_eq_true] at h;exact fin (W:=True) (Rs:=[a]) (.inr (k4 h.2.1)) rfl (by simpa using U h.2.2.1) oC oC oC
 by_cases sP:op=12
 .subst sP;simp[aG,Bool.and_eq_true] at h;refine fin (W:=True) (Rs:=[a,C]) (.inl rfl) rfl ?_ oC oC oC;intro r hr;simp at hr;rcases hr with rfl|rfl
  .exact U h.2.1
  .exact k4 h.2.2.1
 by_cases uh:op=13\/op=14
 .have J:bg f to 119=true/\bg f a 114=true:=by
   rcases uh with rfl|rfl<;>(simp[aG,Bool.and_eq_true] at h;exact h.2)
  rcases uh with rfl|rfl<;>exact fin (W:=True) (Rs:=[a]) (.inr (k1 J.1)) rfl (by simpa using U J.2) oC oC oC
 by_cases V8:op=15
 .subst V8;simp[aG,Bool.and_eq_true] at h;exact fin (W:=True) (Rs:=[a]) (.inl rfl) rfl (by simpa using k1 h.2) oC oC oC
 by_cases oU:op=16
 .subst oU;simp[aG,Bool.and_eq_true] at h;exact fin (W:=True) (Rs:=[a]) (.inl rfl) rfl (by simpa using k3 h.2) oC oC oC
 by_cases fY:op=17
 .subst fY;simp[aG,Bool.and_eq_true] at h;exact⟨⟨.inr (k7 h.2).1,fun e=>by simp at e⟩,⟨by simp[bK,aG,l5,po],fun _=>(k7 h.2).2,fun e=>by simp at e⟩,fun e=>by simp at e⟩
 by_cases dA:op=18
 .subst dA;simp[aG,Bool.and_eq_true] at h;exact⟨⟨.inl rfl,fun _=>(k7 h.2).2⟩,⟨by simpa[bK,aG,l5] using(k7 h.2).1,fun e=>by simp at e,fun e=>by simp at e⟩,fun e=>by simp at e⟩
 by_cases dF:op=19
 .subst dF;simp[aG,Bool.and_eq_true] at h;refine⟨⟨.inr (k4 h.2.2.1),fun e=>by simp at e⟩,⟨by simp[bK,aG,l5,po],fun e=>by simp at e,fun _ r hr=>(X (h.2.2.2.2 r hr)).2⟩,fun _=>?_⟩;simpa[aM] using h.2.2.2.1
 .rw[if_neg h1,if_neg h2,if_neg (by simp[aG];omega),if_neg h5,if_neg h8,if_neg h9,if_neg lS,if_neg ru,if_neg sP,if_neg (by simp[aG];omega),if_neg V8,if_neg oU,if_neg fY,if_neg dA,if_neg dF] at h;cases h
theorem OR{f:aA}{x:aW}(h:jV f x=true):(bM x= -1\/∃ i:Nat,i<f.aj.length/\bM x=i)/\∀ r∈bK x,∃ i:Nat,i<f.aj.length/\r=i:=by
 have k1:∀ {r:Int},bg f r 119=true->∃ i:Nat,i<f.aj.length/\r=i:=fun {r} h=>j5 (jH fun e=>by rw[sd,e] at h;simp[aM] at h);have J:∀ {r:Int},bg f r 114=true->∃ i:Nat,i<f.aj.length/\r=i:=fun {r} h=>j5 (jH fun e=>by rw[wS,e] at h;simp[aM] at h);have k4:∀ {r:Int},bg f r 118=true->∃ i:Nat,i<f.aj.length/\r=i:=fun {r} h=>j5 (mS h);have k6:∀ {l:List Int},fm f.aj l=true->∀ r∈l,∃ i:Nat,i<f.aj.length/\r=i:=fun {l} h r hr=>j5 (vY h r hr);obtain⟨op,to,a,C,n,args⟩:=x;unfold jV at h;dsimp only at h;by_cases h0:op=30\/op=31\/op=32\/op=33\/op=34
 .have U:bg f to 119=true/\bg f a 119=true/\bg f C 119=true:=by
   rcases h0 with rfl|rfl|rfl|rfl|rfl<;>(simp[aG,Bool.and_eq_true] at h;exact h.2)
  have hr:∀ r∈[a,C],∃ i:Nat,i<f.aj.length/\r=i:=by
   intro r hr;simp at hr;rcases hr with rfl|rfl
   .exact k1 U.2.1
   .exact k1 U.2.2
  rcases h0 with rfl|rfl|rfl|rfl|rfl<;>exact⟨.inr (k1 U.1),hr⟩
 by_cases h5:op=35
 .subst h5;simp[aG,Bool.and_eq_true] at h;refine⟨.inl rfl,?_⟩;show ∀ r∈[a,C],_;intro r hr;simp at hr;rcases hr with rfl|rfl
  .exact J h.2.1
  .exact k4 h.2.2
 by_cases X:op=36
 .subst X;simp[aG,Bool.and_eq_true] at h;refine⟨.inr (k4 h.2.1),?_⟩;show ∀ r∈[a],_;simpa using J h.2.2
 by_cases h7:op=37
 .subst h7;simp[aG,Bool.and_eq_true] at h;refine⟨.inr (k4 h.2.1),?_⟩;show ∀ r∈[a,C],_;intro r hr;simp at hr;rcases hr with rfl|rfl
  .exact J h.2.2.1
  .exact k1 h.2.2.2
 by_cases h8:op=38
 .subst h8;simp[aG,Bool.and_eq_true] at h;refine⟨.inl rfl,?_⟩;show ∀ r∈a::C::args,_;intro r hr;rcases List.mem_cons.1 hr with rfl|hr
  .exact J h.2.1
  .rcases List.mem_cons.1 hr with rfl|hr
   .exact k1 h.2.2.1
   .exact k6 h.2.2.2.2 r hr
 .exfalso;simp[aG,h5,X,h7,h8] at h;omega
theorem Hl{f:aA}{x:End}(h:fy f x=true):(dp x= -1\/∃ i:Nat,i<f.aj.length/\dp x=i)/\(∀ r∈bJ x,∃ i:Nat,i<f.aj.length/\r=i)/\(x.kind=7->∃ i:Nat,i<f.aj.length/\x.a=i):=by
 have k1:∀ {r:Int},bg f r 119=true->∃ i:Nat,i<f.aj.length/\r=i:=fun {r} h=>j5 (jH fun e=>by rw[sd,e] at h;simp[aM] at h);have k3:∀ {r:Int},bg f r 105=true->∃ i:Nat,i<f.aj.length/\r=i:=fun {r} h=>j5 (jH fun e=>by rw[By,e] at h;simp[aM] at h);have k4:∀ {r:Int},bg f r 118=true->∃ i:Nat,i<f.aj.length/\r=i:=fun {r} h=>j5 (mS h);have k6:∀ {l:List Int},fm f.aj l=true->∀ r∈l,∃ i:Nat,i<f.aj.length/\r=i:=fun {l} h r hr=>j5 (vY h r hr);obtain⟨kind,a,b,to,eL,name,ins,args,aE,cm⟩:=x;unfold fy at h;dsimp only at h;by_cases h1:kind=1
 .subst h1;exact⟨.inl rfl,by simp[bJ,aG],fun e=>by simp at e⟩
 by_cases h2:kind=2
 .subst h2;simp[Bool.and_eq_true] at h;refine⟨.inl rfl,?_,fun e=>by simp at e⟩;show ∀ r∈[a],_;simpa using k1 h.2.1
 by_cases h3:kind=3
 .subst h3;rw[if_neg oC,if_neg oC,if_pos rfl] at h;refine⟨.inl rfl,?_,fun e=>by simp at e⟩;intro r hr;simp[bJ,aG] at hr;obtain⟨e,rfl⟩:=hr;by_cases hc:f.iter=true\/f.result=0
  .rw[if_pos hc,Bool.and_eq_true,lX] at h;exact absurd h.2 e
  .rw[if_neg hc,Bool.and_eq_true,Bool.and_eq_true] at h;exact k4 h.2.1
 by_cases h4:kind=4
 .subst h4;exact⟨.inl rfl,by simp[bJ,aG],fun e=>by simp at e⟩
 by_cases h5:kind=5
 .subst h5;simp[Bool.and_eq_true] at h;exact⟨(OR h.2.1).1,(OR h.2.1).2,fun e=>by simp at e⟩
 by_cases C:kind=6
 .subst C;simp[Bool.and_eq_true] at h;refine⟨?_,k6 h.2.2.2.1,fun e=>by simp at e⟩;show a= -1\/∃ i:Nat,_/\a=_;rcases h.2.2.2.2.1 with e|e
  .exact .inl (by simpa[aM] using e)
  .exact .inr (k4 e)
 by_cases J:kind=7
 .subst J;simp[Bool.and_eq_true] at h;exact⟨.inr (k3 h.2.2.2.2.1),k6 h.2.2.2.1,fun _=>k3 h.2.2.2.2.1⟩
 by_cases U:kind=8
 .subst U;simp[Bool.and_eq_true] at h;refine⟨.inr (k4 h.2.2.1),?_,fun e=>by simp at e⟩;show ∀ r∈[a],_;simpa using k3 h.2.1
 by_cases X:kind=9
 .subst X;simp[Bool.and_eq_true] at h;refine⟨.inl rfl,?_,fun e=>by simp at e⟩;show ∀ r∈[a],_;simpa using k4 h.2.2.1
 .simp[h1,h2,h3,h4,h5,C,J,U,X] at h
end Go.Argus
section
open Go Go.Abs Go.Proofs Go.Argus
namespace Go.Argus
open Go.Proofs.Tryz.K (nextR)
theorem MY{f:aA}{x:End}(h:iC f x=true):nX x=nextR x:=by
 refine OO (Al .nil).1 (L7 x) fun t=>?_;rw[LV,Dg h,nextR,Ab]
theorem Gl{f:aA}{bs:List bt}(h:∀ b∈bs,iC f b.fin=true)(k:Nat):kf bs k=br bs k:=by
 induction k with
 |zero=>rfl
 |succ k ih=>
  unfold kf br at ih ⊢;rw[List.range_succ,List.foldl_append,List.foldl_append,ih];show AD bs _ k=nQ bs _ k;unfold AD nQ;cases hx:bs[k]? with
  |none=>rfl
  |some x=>dsimp only;rw[MY (h x (List.mem_of_getElem? hx))]
end Go.Argus
end
namespace Go.Argus
open Go Go.Abs
open Go.Proofs.Tryz.K (nextR)
def pF(f:aA):Bool:=lZ f&&(pk f&&l0 f)
def DJ(f:aA):Bool:=f.blocks.all fun x=>(cE x.fin).all (bN f)
def tc(f:aA)(b:Nat)(l:List aW)(j:Nat):Bool:=di f b (kf f.blocks f.blocks.length b).length (l.getD j dh)&& !(bx (l.getD j dh)&&(decide (0<j)&& !bx (l.getD (j - 1) dh)))
def pP(f:aA)(b:Nat):Bool:=
 let x:=f.blocks.getD b iH
 !decide ((200:Int)<x.ins.length)&&((List.range x.ins.length).all (tc f b x.ins)&&(fy f x.fin&& !(x.fin.kind==7&&(j7 f.blocks b).any (·==x.fin.a))))
def sY(f:aA):Bool:=pF f&&(DJ f&&(List.range f.blocks.length).all (pP f))
theorem Da(f:aA)(b:Int)(x:aW)(p:Bool)(C:Int):hD f b x p C=(hD f b x true C&&(!bx x||p)):=by
 unfold hD bx;by_cases oU:x.op=16
 .simp[oU]
 .by_cases X:x.op=17
  .simp[X]
  .by_cases J:x.op=18
   .simp[J]
   .by_cases U:x.op=19
    .simp[U,Bool.and_comm]
    .simp[oU,X,J,U]
theorem ZT(l:List aW):(∀ j,j<l.length->bx (l.getD j dh)=true->0<j->bx (l.getD (j - 1) dh)=true)↔∀ j,j<l.length->bx (l.getD j dh)=true->(l.take (j+1)).all bx=true:=by
 have hg:∀ {j},j<l.length->∀ y,l[j]? =some y->l.getD j dh=y:=fun _ y hy=>getD_some hy;constructor
 .intro h j
  induction j with
  |zero=>
   intro hj hp;have hx:l[0]? =some l[0]:=List.getElem?_eq_getElem hj;rw[getD_some hx] at hp;rw[List.take_add_one,hx];simpa using hp
  |succ j ih=>
   intro hj hp;have hx:l[j+1]? =some l[j+1]:=List.getElem?_eq_getElem hj;have h1:=h (j+1) hj hp oG;have h2:=ih oG (by simpa using h1);rw[List.take_add_one,List.all_append,h2,hx];rw[getD_some hx] at hp;simpa using hp
 .intro h j hj hp h0;have h1:=h j hj hp;have hx:l[j - 1]? =some l[j - 1]:=List.getElem?_eq_getElem oG;rw[getD_some hx];refine List.all_eq_true.1 h1 _ ?_;refine List.mem_of_getElem? (i:=j - 1) ?_;rw[List.getElem?_take,if_pos oG,hx]
theorem aaQ{n:Nat}{p q:Nat->Bool}:(List.range n).all (fun j=>p j&&q j)=((List.range n).all p&&(List.range n).all q):=by
 rw[Bool.eq_iff_iff];simp only[List.all_eq_true,Bool.and_eq_true,List.mem_range];exact⟨fun h=>⟨fun j hj=>(h j hj).1,fun j hj=>(h j hj).2⟩,fun h j hj=>⟨h.1 j hj,h.2 j hj⟩⟩
theorem Ll{f:aA}:sY f=hC f:=by
 have hH:hC f=(pF f&&((List.range f.blocks.length).all (iy f)&&(List.range f.blocks.length).all (qh f))):=by
  unfold hC pF;simp only[Bool.and_assoc]
 rw[hH];unfold sY;cases hh:pF f with
 |false=>rfl
 |true=>
  rw[Bool.true_and,Bool.true_and,Bool.eq_iff_iff,Bool.and_eq_true,Bool.and_eq_true,List.all_eq_true,List.all_eq_true,List.all_eq_true];unfold pF at hh;simp only[Bool.and_eq_true] at hh;obtain⟨h1,h2,_⟩:=hh
  have lF:pb f=true:=by
   unfold lZ at h1;simp only[Bool.and_eq_true] at h1;exact h1.2.2.1
  have jT:f.aj.length<=1200:=by
   unfold lZ at h1;simp only[Bool.and_eq_true,Bool.not_eq_true',decide_eq_false_iff_not] at h1;omega
  have fM:∀ k∈f.aP,k=1\/k=2:=fun k hk=>by
   unfold pk at h2;simp only[Bool.and_eq_true] at h2;have h3:=h2.2.2.1;simp only[dO,Bool.not_eq_true',List.any_eq_false] at h3;have:=h3 k hk;simp[lm] at this;omega
  have gE:∀ {k:Nat},k<f.blocks.length->∃ x,f.blocks[k]? =some x/\f.blocks.getD k iH=x/\x∈f.blocks:=fun {k} hk=>by
   have hx:f.blocks[k]? =some f.blocks[k]:=List.getElem?_eq_getElem hk;exact⟨_,hx,getD_some hx,List.getElem_mem _⟩
  have qM:(∀ b∈f.blocks,iC f b.fin=true)->∀ k,k<f.blocks.length->(pP f k=true↔iy f k=true/\qh f k=true):=fun he k hk=>by
   obtain⟨x,hx,hg,hm⟩:=gE hk;have X:=Gl he f.blocks.length;unfold pP iy qh tc sV;simp only[hg,Hm lF,he x hm,X,Bool.true_and,Bool.and_eq_true,List.all_eq_true,List.mem_range];have h3:∀ j,di f k (br f.blocks f.blocks.length k).length (x.ins.getD j dh)=hD f k (x.ins.getD j dh) true (br f.blocks f.blocks.length k).length:=fun j=>OP fM;have UM:=ZT x.ins;simp only[h3];constructor
   .rintro⟨J,C,U⟩;refine⟨⟨J,U⟩,fun j hj=>?_⟩;rw[Da,Bool.and_eq_true];refine⟨(C j hj).1,?_⟩;have:=UM.1 (fun j hj hp h0=>by have:=(C j hj).2;rw[hp] at this;simpa[h0] using this) j hj;cases hp:bx (x.ins.getD j dh) with
    |false=>rfl
    |true=>rw[this hp];rfl
   .rintro⟨⟨J,U⟩,C⟩;refine⟨J,fun j hj=>?_,U⟩
    have h4:∀ j,j<x.ins.length->bx (x.ins.getD j dh)=true->(x.ins.take (j+1)).all bx=true:=fun j hj hp=>by
     have:=C j hj;rw[Da,Bool.and_eq_true,hp] at this;simpa using this.2
    have h5:=C j hj;rw[Da,Bool.and_eq_true] at h5;refine⟨h5.1,?_⟩;have h6:=UM.2 h4 j hj;cases hp:bx (x.ins.getD j dh) with
    |false=>rfl
    |true=>
     by_cases h0:0<j
     .rw[h6 hp h0];simp
     .simp[h0]
  constructor
  .rintro⟨h3,h4⟩
   have he:∀ b∈f.blocks,iC f b.fin=true:=fun b hb=>by
    obtain⟨k,hk⟩:=List.getElem?_of_mem hb;have:=h4 k (by simpa using(List.getElem?_eq_some_iff.1 hk).1);unfold pP at this;simp only[getD_some hk,Bool.and_eq_true,Hm lF] at this;exact this.2.2.1
   exact⟨fun k hk=>((qM he k (by simpa using hk)).1 (h4 k hk)).1,fun k hk=>((qM he k (by simpa using hk)).1 (h4 k hk)).2⟩
  .rintro⟨h3,h4⟩
   have he:∀ b∈f.blocks,iC f b.fin=true:=fun b hb=>by
    obtain⟨k,hk⟩:=List.getElem?_of_mem hb;have:=h3 k (by simpa using(List.getElem?_eq_some_iff.1 hk).1);unfold iy at this;simp only[getD_some hk,Bool.and_eq_true] at this;exact this.1
   refine⟨List.all_eq_true.2 fun x hx=>List.all_eq_true.2 fun t ht=>?_,fun k hk=>(qM he k (by simpa using hk)).2 ⟨h3 k hk,h4 k hk⟩⟩;rw[Dg (he x hx)] at ht;have:=(GL jT lF (he x hx)).to t ht;rw[bN,jF];omega
def opsV(R:Nat)(c:Cert)(x:aW):Bool:=(x.op !=17||c.is.getD ((R:Int)+x.n).toNat false)&&p7 c (bK x)
def n5(f:aA)(s:CS)(b:Nat)(x:aW)(k:Nat):Bool:=
 let p:=((br f.blocks f.blocks.length b).getD k 0).toNat
 let c:=bT f.aj.length (f.aj.length+f.aP.length) s p
 c.any||(lD (f.blocks.getD p iH).fin b (dR f.aj.length (f.blocks.getD p iH).ins c)).is.getD (x.args.getD k 0).toNat false
def zx(f:aA)(s:CS)(b:Nat)(x:aW):Bool:= !bx x||(List.range x.args.length).all (n5 f s b x)
def xg(f:aA)(s:CS)(b:Nat)(l:List aW)(c:Cert)(j:Nat):Bool:=opsV f.aj.length (dR f.aj.length (l.take j) c) (l.getD j dh)&&zx f s b (l.getD j dh)
def n4(f:aA)(s:CS)(b:Nat):Bool:=
 let c:=bT f.aj.length (f.aj.length+f.aP.length) s b
 let l:=(f.blocks.getD b iH).ins
 c.any||((List.range l.length).all (xg f s b l c)&&p7 (dR f.aj.length l c) (bJ (f.blocks.getD b iH).fin))
def HF(f:aA):Int:=if sY f=true then(if(List.range f.blocks.length).all (n4 f (gf f.blocks f.args.toNat))=true then 0 else 81) else 80
theorem HH{R n:Nat}(J:R<=n){w:List Int}(C:eD w):∀ {rs:List Int} {ok:Bool},(∀ r∈rs,∃ i:Nat,i<R/\r=i)->g' w ok rs=(ok&&p7 ⟨false,bR R n w⟩ rs)
 |[],ok,_=>by simp[g',p7]
 |r::rs,ok,h=>by
  obtain⟨i,hi,e⟩:=h r oS;have ih:=HH J C (rs:=rs) (ok:=ok&&gW w r.toNat) fun r hr=>h r (by simp[hr])
  have h1:(bR R n w).getD r.toNat false=gW w r.toNat:=by
   rw[e,Int.toNat_natCast,getD_some (rV oG),Dw C.all];unfold eU;rw[if_pos hi]
  unfold g' p7 at ih ⊢;rw[List.foldl_cons,ih,List.all_cons,h1,Bool.and_assoc]
theorem OS{R n:Nat}(hR:R<=1200)(hn:n<=R+60)(C:R<=n):∀ {l:List aW} (_:∀ x∈l,xf R n x/\EN R n x) {w:List Int} {ok:Bool} (_:eD w) (_:kT R n w),
 (l.foldl mv (w,ok)).2=(ok&&(List.range l.length).all fun j=>opsV R (dR R (l.take j) ⟨false,bR R n w⟩) (l.getD j dh))
 |[],_,w,ok,_,_=>by simp
 |x::l,h,w,ok,hw,ho=>by
  obtain⟨X,J⟩:=h x oS;obtain⟨h1,h2,h3⟩:=MW hR hn C X hw ho;have ih:=OS hR hn C (l:=l) (ok:=(mv (w,ok) x).2) (fun y hy=>h y (by simp[hy])) h2 h3;rw[List.foldl_cons];show(l.foldl mv (uG w x,(mv (w,ok) x).2)).2=_;rw[ih,List.length_cons,List.range_succ_eq_map,List.all_cons,List.all_map]
  have h0:(mv (w,ok) x).2=(ok&&opsV R ⟨false,bR R n w⟩ x):=by
   show(g' w ok (bK x)&&_)=_;rw[HH C hw J.r,Bool.and_assoc];congr 1;unfold opsV;rw[Bool.and_comm];congr 1;by_cases U:x.op=17
   .obtain⟨i,hi,e⟩:=J.s U;have e1:((R:Int)+x.n).toNat=R+i:=by omega
    have e2:(jC x.n).toNat=eU R (R+i):=by unfold jC eU;rw[if_neg oG];omega
    rw[e1,e2,getD_some (rV oG),Dw hw.all]
   .have:(x.op !=17)=true:=by simpa using U
    rw[this];rfl
  rw[h0,Bool.and_assoc];congr 2;refine List.all_congr rfl fun j=>?_;show _=opsV R (dR R ((x::l).take (j+1)) _) ((x::l).getD (j+1) dh);unfold dR;rw[List.take_succ_cons,List.foldl_cons,h1];rfl
theorem ZU{l:List aW}{P:aW->Bool}(h:∀ j,j<l.length->bx (l.getD j dh)=true->(l.take (j+1)).all bx=true):(List.range l.length).all (fun j=> !bx (l.getD j dh)||P (l.getD j dh))=(l.takeWhile bx).all P:=by
 rw[Bool.eq_iff_iff,List.all_eq_true,List.all_eq_true];constructor
 .intro ha y hy;have C:y∈l:=List.takeWhile_sublist _ |>.subset hy;have hp:bx y=true:=List.all_eq_true.1 List.all_takeWhile y hy;obtain⟨j,hj⟩:=List.getElem?_of_mem C;have:=ha j (by simpa using(List.getElem?_eq_some_iff.1 hj).1);rw[getD_some hj,hp] at this;simpa using this
 .intro ha j hj;have ao:j<l.length:=by simpa using hj
  have hx:l[j]? =some l[j]:=List.getElem?_eq_getElem ao;have h1:=h j ao;rw[getD_some hx] at h1 ⊢;cases hp:bx l[j] with
  |false=>rfl
  |true=>
   have h2:=List.all_eq_true.1 (h1 hp)
   have J:l.takeWhile bx=l.take (j+1)++(l.drop (j+1)).takeWhile bx:=by
    conv=>lhs;rw[<- List.take_append_drop (j+1) l]
    exact List.takeWhile_append_of_pos h2
   have:P l[j]=true:=ha _ (by
    rw[J,List.mem_append];left
    exact List.mem_of_getElem? (i:=j) (by rw[List.getElem?_take,if_pos oG,hx]))
   rw[this];rfl
structure wO(f:aA):Prop where
 ok:iE f
 sl:f.aP.length<=60
 ins:∀ b∈f.blocks,∀ x∈b.ins,xf f.aj.length (f.aj.length+f.aP.length) x/\EN f.aj.length (f.aj.length+f.aP.length) x
 Fh:∀ (k:Nat) b,f.blocks[k]? =some b->∀ (j:Nat) x,b.ins[j]? =some x->bx x=true->x.args.length=(br f.blocks f.blocks.length k).length/\(b.ins.take (j+1)).all bx=true
 wr:∀ b∈f.blocks,dp b.fin= -1\/∃ i:Nat,i<f.aj.length/\dp b.fin=i
 rd:∀ b∈f.blocks,∀ r∈bJ b.fin,∃ i:Nat,i<f.aj.length/\r=i
 ed:∀ b∈f.blocks,cE b.fin=cz b.fin/\nX b.fin=nextR b.fin
 ar:∃ a:Nat,f.args=a/\a<=f.aj.length
theorem Bw{f:aA}(h:hC f=true):wO f:=by
 have C:=yS h;have hd:=h;unfold hC at hd;simp only[Bool.and_eq_true] at hd;obtain⟨h1,h2,_,h4,_⟩:=hd
 have lF:pb f=true:=by
  unfold lZ at h1;simp only[Bool.and_eq_true] at h1;exact h1.2.2.1
 have Cp:∃ a:Nat,f.args=a/\a<=f.aj.length:=by
  unfold lZ at h1;simp only[Bool.and_eq_true,jF] at h1;have:=h1.2.1;refine⟨f.args.toNat,by omega,?_⟩;have:=this.2;split at this<;>omega
 have X:∀ k∈f.aP,k=1\/k=2:=fun k hk=>by
  unfold pk at h2;simp only[Bool.and_eq_true] at h2;have h3:=h2.2.2.1;simp only[dO,Bool.not_eq_true',List.any_eq_false] at h3;have:=h3 k hk;simp[lm] at this;omega
 have he:∀ b∈f.blocks,iC f b.fin=true:=fun b hb=>by
  obtain⟨k,hk⟩:=List.getElem?_of_mem hb;have:=List.all_eq_true.1 h4 k (by simpa using(List.getElem?_eq_some_iff.1 hk).1);unfold iy at this;simp only[getD_some hk,Bool.and_eq_true] at this;exact this.1
 have J:∀ (k:Nat) b,f.blocks[k]? =some b->∀ (j:Nat) x,b.ins[j]? =some x->di f k (br f.blocks f.blocks.length k).length x=true/\(bx x=true->(b.ins.take (j+1)).all bx=true):=fun k b hb j x hx=>by
  have:=C.right k b hb j x hx;rw[Da,Bool.and_eq_true] at this;refine⟨by rw[OP X];exact this.1,fun hp=>?_⟩;have h3:=this.2;rw[hp] at h3;simpa using h3
 have U:∀ b∈f.blocks,fy f b.fin=true:=fun b hb=>by rw[Hm lF];exact he b hb
 refine⟨C,C.aP.2,fun b hb x hx=>?_,fun k b hb j x hx hp=>?_,fun b hb=>(Hl (U b hb)).1,fun b hb=>(Hl (U b hb)).2.1,fun b hb=>⟨Dg (he b hb),MY (he b hb)⟩,Cp⟩
 .obtain⟨k,hk⟩:=List.getElem?_of_mem hb;obtain⟨j,hj⟩:=List.getElem?_of_mem hx;have:=OQ C.aP.1 (J k b hk j x hj).1;exact⟨this.1,this.2.1⟩
 .have:=OQ C.aP.1 (J k b hb j x hx).1;have h3:=this.2.2 (by simpa[bx] using hp);exact⟨by omega,(J k b hb j x hx).2 hp⟩
theorem YD{f:aA}(h:wO f):n3 f.aj.length (f.aj.length+f.aP.length) f.blocks.length (gf f.blocks f.args.toNat):=by
 obtain⟨a,ha,q0⟩:=h.ar;have hR:=h.ok.aj;have hS:=h.sl;have hi:=LX (R:=f.aj.length) (n:=f.aj.length+f.aP.length) (args:=a) hR oG oG h.ok.pos q0;rw[ha,Int.toNat_natCast];unfold gf;refine(MS (J:=n3 f.aj.length (f.aj.length+f.aP.length) f.blocks.length) h.ok.blk (fun s U hj=>ZQ (J:=n3 f.aj.length (f.aj.length+f.aP.length) f.blocks.length) h.ok.blk (fun s h=>Nz h false) (fun s k U hj=>?_) U hj) _ _ hi.1.ok hi.1 (Nat.lt_succ_self _)).2.2;refine aaK (J:=n3 f.aj.length (f.aj.length+f.aP.length) f.blocks.length) h.ok.blk U hj fun x hx hr u hu mH t ht=>?_;have hk:k<f.blocks.length:=(List.getElem?_eq_some_iff.1 hx).1;have C:=List.mem_of_getElem? hx;have X:=(h.ok.blk x C).to t ht;obtain⟨t,rfl⟩:=Int.eq_ofNat_of_zero_le X.1;obtain⟨_,p2,p3⟩:=Au hR oG oG (ok:=true) (fun y hy=>(h.ins x C y hy).1) (U.lb hk) (hj.yes k hk hr);exact(NA hR oG oG mH (h.ed x C).1 (h.wr x C) oG p2 p3).1
theorem MZ{f:aA}(h:wO f){b:Nat}(hb:b<f.blocks.length):n4 f (gf f.blocks f.args.toNat) b=qg f.blocks (gf f.blocks f.args.toNat) b:=by
 have U:=YD h;have hR:=h.ok.aj;have hS:=h.sl;generalize gf f.blocks f.args.toNat=s at U ⊢;have hx:f.blocks[b]? =some f.blocks[b]:=List.getElem?_eq_getElem hb;have J:f.blocks[b]∈f.blocks:=List.getElem_mem _;unfold n4 qg;simp only[getD_some hx];have wY:=h.Fh b _ hx;generalize f.blocks[b]=x at hx J wY;cases j3:s.re.getD b false with
 |false=>
  have:bT f.aj.length (f.aj.length+f.aP.length) s b=⟨true,List.replicate (f.aj.length+f.aP.length) false⟩:=by unfold bT;rw[j3];rfl
  rw[this];rfl
 |true=>
  have hc:bT f.aj.length (f.aj.length+f.aP.length) s b=⟨false,bR f.aj.length (f.aj.length+f.aP.length) (s.ws.getD b [])⟩:=by unfold bT;rw[j3];rfl
  have hw:=U.ok.lb hb;have ho:=U.yes b hb j3;rw[hc];generalize s.ws.getD b []=w at hw ho;have h1:=OS hR oG oG (h.ins x J) (ok:=true) hw ho;obtain⟨h2,h3,h4⟩:=Au hR oG oG (ok:=true) (fun y hy=>(h.ins x J y hy).1) hw ho;have h5:=HH (R:=f.aj.length) (n:=f.aj.length+f.aP.length) oG h3 (ok:=(x.ins.foldl mv (w,true)).2) (h.rd x J)
  have h6:∀ j,j<x.ins.length->bx (x.ins.getD j dh)=true->(x.ins.take (j+1)).all bx=true:=fun j hj hp=>by
   have hy:x.ins[j]? =some x.ins[j]:=List.getElem?_eq_getElem hj;rw[getD_some hy] at hp;exact(wY j _ hy hp).2
  have h7:=ZU (l:=x.ins) (P:=fun y=>(List.range y.args.length).all (n5 f s b y)) h6
  have h8:(x.ins.takeWhile bx).all (fun y=>(List.range y.args.length).all (n5 f s b y))=(x.ins.takeWhile bx).all (s8 f.blocks s b):=by
   rw[Bool.eq_iff_iff,List.all_eq_true,List.all_eq_true]
   have oK:∀ y∈x.ins.takeWhile bx,(List.range y.args.length).all (n5 f s b y)=s8 f.blocks s b y:=fun y hy=>by
    have FI:y∈x.ins:=List.takeWhile_sublist _ |>.subset hy;have hp:bx y=true:=List.all_eq_true.1 List.all_takeWhile y hy;obtain⟨j,hj⟩:=List.getElem?_of_mem FI;have hlen:=(wY j y hj hp).1;unfold s8;rw[hlen,Bool.eq_iff_iff,List.all_eq_true,List.all_eq_true]
    have:∀ k∈List.range (br f.blocks f.blocks.length b).length,n5 f s b y k=rN f.blocks s b y k:=fun k hk=>by
     have hk:k<(br f.blocks f.blocks.length b).length:=by simpa using hk
     have hpk:(br f.blocks f.blocks.length b)[k]? =some (br f.blocks f.blocks.length b)[k]:=List.getElem?_eq_getElem hk;unfold n5 rN;simp only[getD_some hpk]
     have X:(br f.blocks f.blocks.length b)[k].toNat<f.blocks.length:=by
      have zw:=(C0 (fun b hb t ht=>((h.ok.blk b hb).to t ht).1) f.blocks.length b).2 _ (List.getElem_mem hk);have:=h.ok.pos;omega
     generalize (br f.blocks f.blocks.length b)[k].toNat=p at X;have sL:f.blocks[p]? =some f.blocks[p]:=List.getElem?_eq_getElem X;have oa:f.blocks[p]∈f.blocks:=List.getElem_mem _;rw[getD_some sL];generalize f.blocks[p]=z at sL oa;have hak:y.args[k]? =some y.args[k]:=List.getElem?_eq_getElem oG;have vE:=(h.ins x J y FI).2.p (by simpa[bx] using hp) _ (List.getElem_mem (h:=by omega):y.args[k]∈y.args);rw[getD_some hak];obtain⟨i,hi,e⟩:=vE;rw[e,Int.toNat_natCast];cases xA:s.re.getD p false with
     |false=>
      have:bT f.aj.length (f.aj.length+f.aP.length) s p=⟨true,List.replicate (f.aj.length+f.aP.length) false⟩:=by unfold bT;rw[xA];rfl
      rw[this];rfl
     |true=>
      have xS:bT f.aj.length (f.aj.length+f.aP.length) s p=⟨false,bR f.aj.length (f.aj.length+f.aP.length) (s.ws.getD p [])⟩:=by unfold bT;rw[xA];rfl
      obtain⟨q2,q3,q4⟩:=Au hR oG oG (ok:=true) (fun y hy=>(h.ins z oa y hy).1) (U.ok.lb X) (U.yes p X xA);obtain⟨r2,r3,r4⟩:=MX hR oG oG (h.ed z oa).1 (h.wr z oa) (to:=(b:Int)) q3 q4;rw[xS,q2,r2,getD_some (rV (show i<f.aj.length+f.aP.length by omega))];have iT:eU f.aj.length i=i:=by unfold eU;rw[if_pos hi]
      rw[iT];show(false||a7 _ i)=(!true||gW _ i)
      rw[<- Dw r3.all];rfl
    exact⟨fun h k hk=>by rw[<- this k hk];exact h k hk,fun h k hk=>by rw[this k hk];exact h k hk⟩
   exact⟨fun h y hy=>by rw[<- oK y hy];exact h y hy,fun h y hy=>by rw[oK y hy];exact h y hy⟩
  have h9:(List.range x.ins.length).all (xg f s b x.ins ⟨false,bR f.aj.length (f.aj.length+f.aP.length) w⟩)=((List.range x.ins.length).all (fun j=>opsV f.aj.length (dR f.aj.length (x.ins.take j) ⟨false,bR f.aj.length (f.aj.length+f.aP.length) w⟩) (x.ins.getD j dh))&&(List.range x.ins.length).all fun j=> !bx (x.ins.getD j dh)||(List.range (x.ins.getD j dh).args.length).all (n5 f s b (x.ins.getD j dh))):=by
   rw[<- aaQ];rfl
  have lS:(g9 x w).2=g' (x.ins.foldl mv (w,true)).1 (x.ins.foldl mv (w,true)).2 (bJ x.fin):=rfl;rw[h9,h7,h8,h2,lS,h5,h1];simp only[Bool.true_and,Bool.false_or,Bool.not_true];generalize (List.range x.ins.length).all _=A;generalize (x.ins.takeWhile bx).all _=B;generalize p7 _ _=C;cases A<;>cases B<;>cases C<;>rfl
theorem Ym(f:aA):HF f=fN f:=by
 unfold HF fN;rw[Ll];split
 .rename_i h;have hf:=Bw h
  have:(List.range f.blocks.length).all (n4 f (gf f.blocks f.args.toNat))=uw f.blocks f.args.toNat:=by
   unfold uw;rw[Bool.eq_iff_iff,List.all_eq_true,List.all_eq_true];exact⟨fun h k hk=>by rw[<- MZ hf (by simpa using hk)];exact h k hk,fun h k hk=>by rw[MZ hf (by simpa using hk)];exact h k hk⟩
  rw[this]
 .rfl
end Go.Argus
namespace Go.Argus
open Go.Abs
structure wJ(f:aA):Prop where
 Vh:0<=f.result
 nm:f.name.size<=maxLen
 sg:∀ s∈f.signals,s.size<=maxLen
 en:∀ b∈f.blocks,b.fin.name.size<=maxLen/\∀ w∈b.fin.aE,w.name.size<=maxLen
theorem abB(x:wG.val)(h:wG.ok x):wJ (QU x):=by
 obtain⟨h1,_,_,h4,_,_,J,U,_⟩:=h;refine⟨?_,h1,fun s X=>?_,fun b hb=>?_⟩
 .have:(Lit.int .u8 x.2.2.2.1).wf=true:=h4;simp only[Lit.wf,Bool.and_eq_true] at this;exact of_decide_eq_true this.1
 .exact J s X
 .obtain⟨y,hy,rfl⟩:=List.mem_map.1 hb;obtain⟨_,C,_⟩:=U y hy;obtain⟨_,_,_,_,_,e6,_,_,e9,_,_⟩:=C;refine⟨e6,fun w hw=>?_⟩;obtain⟨z,hz,rfl⟩:=List.mem_map.1 hw;exact(e9 z hz).1
end Go.Argus
section
open Go Go.Abs Go.Proofs Go.Argus
namespace Go.Argus
def uS(f:aA):Bool:=ke f.name&&(!decide ((1200:Int)<f.aj.length)&&(!decide ((60:Int)<f.aP.length)&&(cA f.args 0 (if(f.aj.length:Int)<6 then(f.aj.length:Int) else 6)&&(!decide (2<f.result)&&(!(f.iter&&decide (f.result=0))&&(!decide ((6:Int)<f.signals.length)&&cA f.blocks.length 1 1200))))))
def r5(a:Int)(j:Nat)(x:Int):Bool:=lm 3 x||(decide ((j:Int)<a)&&decide (x=3))
theorem WC{f:aA}(h:uS f=false):pF f=false:=by
 unfold uS at h;unfold pF lZ pk pb;revert h;generalize ke f.name=a;generalize cA f.args 0 _=b;generalize cA f.blocks.length 1 1200=c;generalize l0 f=d;generalize dO f.aj 3=e;generalize dO (f.aj.take f.args.toNat) 2=g;generalize dO f.aP 2=i;generalize f.signals.any _=j;grind
theorem W7{f:aA}(h:uS f=true)(hr:0<=f.result):lZ f=true/\f.signals.length<=6/\f.aj.length<=1200/\f.aP.length<=60/\0<=f.args/\f.args<=f.aj.length:=by
 unfold uS at h;simp only[Bool.and_eq_true,Bool.not_eq_true',decide_eq_false_iff_not,jF] at h;obtain⟨h1,h2,h3,h4,h5,C,U,J⟩:=h;have ha:f.args<=f.aj.length:=by have:=h4.2;split at this<;>omega
 refine⟨?_,by omega,by omega,by omega,h4.1,ha⟩;unfold lZ pb;simp only[Bool.and_eq_true,Bool.not_eq_true',decide_eq_false_iff_not,jF];refine⟨h1,h4,?_,h2,h3,J⟩;have:f.result=0\/f.result=1\/f.result=2:=by omega
 rcases this with e|e|e
 .simp[e] at C ⊢;exact C
 .simp[e]
 .simp[e]
theorem fH(a b:Bool):(if a=true then b else false)=(a&&b):=by cases a<;>rfl
theorem wF(a b:Bool):(if a=true then true else b)=(a||b):=by cases a<;>rfl
def jI(bs:List bt):List (List Int):=(List.range bs.length).map (kf bs bs.length)
def kS(R:Nat)(bs:List bt)(k:Nat):List Bool:=(List.range R).map fun(i:Nat)=>(j7 bs k).any (·==(i:Int))
theorem Am(R:Nat)(bs:List bt)(k:Nat):(kS R bs k).length=R:=by simp[kS]
theorem Dt{R i:Nat}{bs:List bt}{k:Nat}(h:i<R):(kS R bs k)[i]? =some ((j7 bs k).any (·==(i:Int))):=by simp[kS,h]
theorem Lk{bs:List bt}{k:Nat}{x:bt}(h:bs[k]? =some x):j7 bs (k+1)=j7 bs k++if x.fin.kind=7 then [x.fin.a] else []:=by
 unfold j7;rw[List.take_add_one,h,List.filter_append,List.map_append];congr 1;by_cases e:x.fin.kind=7<;>simp[e]
theorem aaA{R:Nat}{bs:List bt}{k:Nat}{x:bt}(h:bs[k]? =some x)(e:¬ x.fin.kind=7):kS R bs (k+1)=kS R bs k:=by
 unfold kS;rw[Lk h,if_neg e,List.append_nil]
theorem Zz{R i:Nat}{bs:List bt}{k:Nat}{x:bt}(h:bs[k]? =some x)(e:x.fin.kind=7)(ha:x.fin.a=i):kS R bs (k+1)=(kS R bs k).set i true:=by
 apply List.ext_getElem?;intro j;rw[List.getElem?_set];by_cases hj:j<R
 .rw[Dt hj,Dt hj,Lk h,if_pos e,List.any_append,ha,Am];by_cases C:i=j
  .subst C;simp[hj]
  .rw[if_neg C];have:((i:Int)==(j:Int))=false:=by simp;omega
   simp[this]
 .have h1:∀ k,(kS R bs k)[j]? =none:=fun k=>List.getElem?_eq_none (by rw[Am];omega);rw[h1,h1,Am];split
  .rw[if_neg oG]
  .rfl
theorem Yh(R:Nat)(bs:List bt):kS R bs 0=List.replicate R false:=by
 apply List.ext_getElem?;intro j;by_cases hj:j<R
 .rw[Dt hj];simp[j7,hj]
 .rw[List.getElem?_eq_none (by rw[Am];omega),List.getElem?_eq_none oP]
theorem take_set{C:List Bool}{k n:Nat}{v:Bool}(h:C[k]? =some v)(hn:C.length=n):((C.take k++List.replicate (n - k) false).set k v)=C.take (k+1)++List.replicate (n - (k+1)) false:=by
 have hk:=(List.getElem?_eq_some_iff.1 h).1;have hl:(C.take k).length=k:=by simp;omega
 rw[show n - k=n - (k+1)+1 by omega,List.replicate_succ,List.set_append_right _ _ oG,hl,Nat.sub_self,List.set_cons_zero,List.take_add_one,h];simp
def ng(p:Bool×D):List D:=[B p.1,p.2]
def cH(L:List (Bool×D)):List D:=L.flatMap ng
def BX(c:Cert):Bool×D:=(c.any,bW c.is)
theorem yG:∀ L:List (Bool×D),(cH L).length=L.length*2
 |[]=>rfl
 |p::L=>by
  have:=yG L;unfold cH at this ⊢;rw[List.flatMap_cons,List.length_append,this];simp[ng];omega
theorem GN:∀ {L:List (Bool×D)} {t:Nat} {p:Bool×D},L[t]? =some p->∃ r,(cH L).drop (t*2)=B p.1::p.2::r
 |[],_,_,h=>by simp at h
 |p::L,0,q,h=>by
  simp at h;subst h;exact⟨cH L,rfl⟩
 |p::L,t+1,q,h=>by
  obtain⟨r,hr⟩:=GN (L:=L) (t:=t) (by simpa using h);refine⟨r,?_⟩;rw[show(t+1)*2=t*2+2 by omega];show(B p.1::p.2::cH L).drop (t*2+2)=_;exact hr
theorem Nw:∀ {L:List (Bool×D)} {t:Nat} (q:Bool×D),t<L.length->(cH L).take (t*2)++[B q.1,q.2]++(cH L).drop (t*2+2)=cH (L.set t q)
 |[],_,_,h=>by simp at h
 |p::L,0,q,h=>rfl
 |p::L,t+1,q,h=>by
  have ih:=Nw (L:=L) (t:=t) q (by simpa using h);rw[show(t+1)*2=t*2+2 by omega,List.set_cons_succ];show B p.1::p.2::((cH L).take (t*2)++[B q.1,q.2]++(cH L).drop (t*2+2))=_;rw[ih];rfl
theorem F5{L:List (Bool×D)}{t:Nat}(q:Bool×D)(h:t<L.length):splice (cH L) (t*2) [B q.1,q.2]=cH (L.set t q):=Nw q h
theorem abw{L:List (Bool×D)}{t:Nat}{p:Bool×D}(h:L[t]? =some p):∃ r,(cH L).drop (t*2+0)=B p.1::p.2::r:=GN h
theorem Nx{L:List (Bool×D)}{t:Nat}{p:Bool×D}(h:L[t]? =some p):((cH L).drop (t*2)).take 2=[B p.1,p.2]:=by
 obtain⟨r,hr⟩:=GN h;rw[hr];rfl
theorem DK(g:D->D)(hg:∀ b,g (B b)=B b):∀ L:List (Bool×D),(cH L).map g=cH (L.map fun p=>(p.1,g p.2))
 |[]=>rfl
 |p::L=>by
  show g (B p.1)::g p.2::(cH L).map g=B p.1::g p.2::_;rw[hg,DK g hg L];rfl
def gV(n N:Nat)(d:D):Nat->List (Bool×D)
 |0=>List.replicate N (false,.z)
 |k+1=>(true,d)::(List.replicate k (true,bW (List.replicate n false))++List.replicate (N - (k+1)) (false,.z))
theorem Gk{n N:Nat}{d:D}{k:Nat}(h:k<=N):(gV n N d k).length=N:=by
 cases k with
 |zero=>simp[gV]
 |succ k=>simp[gV];omega
theorem aaB{n N:Nat}{d:D}(h:0<N):(gV n N d 0).set 0 (true,d)=gV n N d 1:=by
 obtain⟨M,rfl⟩:∃ M,N=M+1:=⟨N - 1,by omega⟩
 simp[gV,List.replicate_succ]
theorem aaC{n N:Nat}{d:D}{k:Nat}(h:k+1<N):(gV n N d (k+1)).set (k+1) (true,bW (List.replicate n false))=gV n N d (k+2):=by
 unfold gV;rw[List.set_cons_succ,show N - (k+1)=N - (k+1+1)+1 by omega,List.replicate_succ (n:=N - (k+1+1)),List.set_append_right _ _ oS,List.length_replicate,Nat.sub_self,List.set_cons_zero];show _=(true,d)::(List.replicate (k+1) _++_)
 rw[List.replicate_succ',List.append_assoc];rfl
def dQ(R n N:Nat)(s:CS):List (Bool×D):=(List.range N).map fun k=>BX (bT R n s k)
theorem uq(R n N:Nat)(s:CS):(dQ R n N s).length=N:=by simp[dQ]
theorem yg{R n N:Nat}{s:CS}{k:Nat}(h:k<N):(dQ R n N s)[k]? =some (BX (bT R n s k)):=by simp[dQ,h]
theorem Xj{R n N:Nat}{s s':CS}{t:Nat}{c:Cert}(h:∀ k,bT R n s' k=if k=t then c else bT R n s k):(dQ R n N s).set t (BX c)=dQ R n N s':=by
 apply List.ext_getElem?;intro j;rw[List.getElem?_set,uq];by_cases hj:j<N
 .rw[yg hj,yg hj,h j];by_cases e:t=j
  .subst e;simp[hj]
  .rw[if_neg e,if_neg fun h=>e h.symm]
 .have h1:∀ s,(dQ R n N s)[j]? =none:=fun s=>by simp[dQ];omega
  rw[h1,h1];split
  .rw[if_neg oG]
  .rfl
def Bj(f:aA)(s:CS):D:=.sl (cH (dQ f.aj.length (f.aj.length+f.aP.length) f.blocks.length s)) f.blocks.length
theorem F6{R n:Nat}{s:CS}{k:Nat}:(bT R n s k).is.length=n:=by
 unfold bT;split
 .exact At ..
 .simp
def nZ(a b:Cert)(q:Nat):Bool:=(a.any==b.any)&&(List.range q).all fun i=>a.is.getD i false==b.is.getD i false
theorem Xk(a b:Cert)(q:Nat):nZ a b (q+1)=(nZ a b q&&(a.is.getD q false==b.is.getD q false)):=by
 unfold nZ;rw[List.range_succ,List.all_append,Bool.and_assoc];simp
theorem Yl{a b:Cert}{n:Nat}(ha:a.is.length=n)(hb:b.is.length=n):nZ a b n=true↔a.any=b.any/\a.is=b.is:=by
 unfold nZ;rw[Bool.and_eq_true,beq_iff_eq,List.all_eq_true];refine and_congr_right fun _=>⟨fun h=>?_,fun h k hk=>by rw[h];simp⟩
 apply List.ext_getElem?;intro j;by_cases hj:j<n
 .have:=h j (by simpa using hj);have h1:a.is[j]? =some a.is[j]:=List.getElem?_eq_getElem oG;have h2:b.is[j]? =some b.is[j]:=List.getElem?_eq_getElem oG;rw[getD_some h1,getD_some h2,beq_iff_eq] at this;rw[h1,h2,this]
 .rw[List.getElem?_eq_none oG,List.getElem?_eq_none oG]
theorem MH:∀ n:Nat,replD n [B false,.z]=cH (List.replicate n (false,.z))
 |0=>rfl
 |n+1=>by
  have:=MH n;unfold replD at this ⊢;rw[List.replicate_succ,List.replicate_succ,List.flatten_cons,this];rfl
theorem Ny:∀ {L:List (Bool×D)},(∀ p∈L,Tr p.2)->∀ x∈cH L,Tr x
 |[],_,x,h=>by simp[cH] at h
 |p::L,hp,x,h=>by
  have h:x∈B p.1::p.2::cH L:=h;rcases List.mem_cons.1 h with rfl|h
  .exact .s _
  .rcases List.mem_cons.1 h with rfl|h
   .exact hp p oS
   .exact Ny (fun q hq=>hp q (by simp[hq])) x h
theorem ZA(f:aA)(s:CS):Tr (Bj f s):=.sl (Ny fun p hp=>by
 obtain⟨k,_,rfl⟩:=List.mem_map.1 hp
 exact .sl (.map fun _=>.s _))
theorem ZB{n N i:Nat}{cs:List D}{sz:Nat}(h:i≠2)(k:Nat):(gV n N (.rs 2 0 n) k).map (fun p=>(p.1,sub (fz0 i cs sz) p.2))=gV n N (.rs 2 0 n) k:=by
 cases k with
 |zero=>simp only[gV,List.map_replicate];rfl
 |succ k=>
  simp only[gV,List.map_cons,List.map_append,List.map_replicate,yx (Ne.symm h)];rfl
theorem aaD{n N i k:Nat}(h:i≠2)(hk:k+1<N):(cH ((gV n N (.rs 2 0 n) (k+1)).set (k+1) (true,.rs i 0 n))).map (sub (fz0 i ((List.replicate n false).map B) 1))=cH (gV n N (.rs 2 0 n) (k+2)):=by
 rw[DK _ (fun _=>rfl),List.map_set,ZB h,y5,List.drop_zero,List.take_of_length_le oS, <- aaC hk];congr 3;show _=D.sl _ _;rw[List.length_replicate]
def nh(n N:Nat):List (Bool×D):=List.replicate (N - 1) (true,bW (List.replicate n false))
theorem aaE{n N:Nat}{d:D}(h:0<N):gV n N d N=(true,d)::nh n N:=by
 obtain⟨M,rfl⟩:∃ M,N=M+1:=⟨N - 1,by omega⟩
 simp[gV,nh]
theorem LW{n N:Nat}(h:0<N):(nh n N).length+1=N:=by simp[nh];omega
theorem akA{n N i:Nat}{cs:List D}{sz:Nat}:(nh n N).map (fun p=>(p.1,sub (fz0 i cs sz) p.2))=nh n N:=by
 unfold nh;rw[List.map_replicate];rfl
theorem WD{R n N args:Nat}(h0:bT R n (iY N args) 0=⟨false,List.replicate args true++List.replicate (n - args) false⟩)(h1:∀ k,0<k->k<N->bT R n (iY N args) k=⟨true,List.replicate n false⟩)(C:0<N):
 dQ R n N (iY N args)=(false,bW (List.replicate args true++List.replicate (n - args) false))::nh n N:=by
 apply List.ext_getElem?;intro j;by_cases hj:j<N
 .rw[yg hj];cases j with
  |zero=>rw[h0];rfl
  |succ j=>
   rw[h1 _ oG hj,List.getElem?_cons_succ];unfold nh;rw[List.getElem?_replicate,if_pos oG];rfl
 .rw[List.getElem?_eq_none (by rw[uq];omega),List.getElem?_eq_none (by have:=LW (n:=n) C;simp;omega)]
theorem GO{R n N i sz:Nat}{cs:List D}{e:TypeId}{s:CS}:Row.sub (fz0 i cs sz) (.cells (cH (dQ R n N s)) e)=.cells (cH (dQ R n N s)) e:=by
 refine congrArg (fun c=>Row.cells c e) ((DK _ (fun _=>rfl) _).trans (congrArg cH ?_));unfold dQ;rw[List.map_map];rfl
def It(f:aA)(n N:Nat):Nat->St
 |0=>⟨ay [(1,.pt (aC f)),(3,I n),(4,.rs 1 0 N),(5,I (0:Nat))],a9 [(1,.cells (cH (gV n N (.rs 2 0 n) 0)) 158)],2⟩
 |k+1=>⟨ay [(1,.pt (aC f)),(3,I n),(4,.rs 1 0 N),(5,I (k+1:Nat))],a9 [(1,.cells (cH (gV n N (.rs 2 0 n) (k+1))) 158),(2,.cells ((List.replicate n false).map B) 4)],k+3⟩
end Go.Argus
namespace Go.Proofs.Tryz.K
set_option maxRecDepth 10000
set_option maxHeartbeats 1000000 in
theorem zr{f:aA}(X:wJ f):PCall prog 169 [.agg (aC f)] (B (pF f)):=by
 have w9:=w9 X.nm;have fw:∀ {n a b:Int},PCall prog 212 [I n,I a,I b] (B (cA n a b)):=fun {n a b}=>fw;refine aX mixed SE (by rw[agk];rfl) (.cons (.agg (gz f)) .nil) (Tr.s _) ?_;rw[agl,agm];refine av ?_;refine ag ?_;refine ab (aJ (bp [(0,aC f,26)] eH (l:=[(1,.pt (aC f))]) eH) (aD (an ?_)));refine ag ?_;refine cl w9 ?_;refine aL ?_;refine bA ?_;refine ag ?_;refine bm rfl rfl (Q5 rfl rfl) (fun hc=>⟨ak,rfl⟩) ?_;refine gc fw ?_;refine aL ?_;refine aL ?_;refine bA ?_;refine gc fw ?_;refine ag ?_;refine ab (bC rfl (fun h=>?_) fun h=>cx (aD (av ?_)))
 .refine aD (an ?_);refine SS ?_;refine ab (dx (ax (d:=B false) rfl ?_))
  have:uS f=false:=by
   revert h;unfold uS;generalize ke f.name=a;generalize cA f.args 0 _=b;generalize cA f.blocks.length 1 1200=c;generalize f.iter=d;grind
  rw[WC this]
 have hA:uS f=true:=by
  revert h;unfold uS;generalize ke f.name=a;generalize cA f.args 0 _=b;generalize cA f.blocks.length 1 1200=c;generalize f.iter=d;grind
 obtain⟨h1,h6,hR,hS,U,haR⟩:=W7 hA X.Vh;clear h hA;obtain⟨a,ha⟩:=Int.eq_ofNat_of_zero_le U
 have hV:pF f=(dO f.aj 3&&(dO (f.aj.take a) 2&&(dO f.aP 2&&((!f.signals.any fun s=> !isName s)&&l0 f)))):=by
  rw[pF,h1,pk,ha,Int.toNat_natCast,show decide ((6:Int)<f.signals.length)=false from decide_eq_false oG];simp only[Bool.true_and,Bool.not_false,Bool.and_assoc]
 rw[hV];clear hV h1
 have SF:∀ (j:Nat) x,f.aj[j]? =some x->r5 a j x=true->(dO f.aj 3&&(dO (f.aj.take a) 2&&(dO f.aP 2&&((!f.signals.any fun s=> !isName s)&&l0 f))))=false:=fun j x hx hb=>by
  unfold r5 at hb;rw[Bool.or_eq_true] at hb;rcases hb with hb|hb
  .have:dO f.aj 3=false:=by
    unfold dO;rw[List.any_eq_true.2 ⟨x,List.mem_of_getElem? hx,hb⟩];rfl
   rw[this];rfl
  .have hb:j<a/\x=3:=by simpa using hb
   have:dO (f.aj.take a) 2=false:=by
    unfold dO;rw[List.any_eq_true.2 ⟨x,List.mem_of_getElem? (i:=j) (by rw[List.getElem?_take,if_pos hb.1,hx]),by rw[hb.2];rfl⟩];rfl
   rw[this,Bool.false_and,Bool.and_false]
 have PE:(∀ (j:Nat) x,f.aj[j]? =some x->r5 a j x=false)->dO f.aj 3=true/\dO (f.aj.take a) 2=true:=fun h=>by
  constructor
  .unfold dO;rw[Bool.not_eq_true',List.any_eq_false];intro x hx;obtain⟨j,hj⟩:=List.getElem?_of_mem hx;have:=h j x hj;unfold r5 at this;rw[Bool.or_eq_false_iff] at this;rw[this.1];simp
  .unfold dO;rw[Bool.not_eq_true',List.any_eq_false];intro x hx;obtain⟨j,hj⟩:=List.getElem?_of_mem hx;have sO:j<a:=by have:=(List.getElem?_eq_some_iff.1 hj).1;simp at this;omega
   rw[List.getElem?_take,if_pos sO] at hj;have:=h j x hj;unfold r5 lm at this;simp[sO] at this;simp[lm];omega
 refine SS ?_
 refine ab (bG (fun s=>Ghost prog s ⟨ay [(1,.pt (aC f))],fun _=>none,1⟩/\dO f.aj 3=true/\dO (f.aj.take a) 2=true) (cq (α:=Nat) (fun k=>⟨ay [(1,.pt (aC f)),(3,I k)],fun _=>none,1⟩)
  (fun k=>k<=f.aj.length/\∀ j x,j<k->f.aj[j]? =some x->r5 a j x=false) (fun k=>f.aj.length - k) 0 (ap eH) ⟨by omega,fun j y hj=>by omega⟩ ?_) ?_)
 .rintro k ⟨hk,hinv⟩;refine aV ?_;refine ab ⟨_,rfl,fun h=>?_,fun h=>?_⟩
  .have ao:k<f.aj.length:=by simpa using h
   have hx:f.aj[k]? =some f.aj[k]:=List.getElem?_eq_getElem ao;have oe:=SF k _ hx
   have nC:r5 a k f.aj[k]=false->∀ j y,j<k+1->f.aj[j]? =some y->r5 a j y=false:=fun h j y hj hy=>by
    by_cases e:j=k
    .subst e;rw[hx] at hy;cases hy;exact h
    .exact hinv j y oG hy
   generalize f.aj[k]=x at hx oe nC;refine ws ?_;refine aL ?_;refine aL ?_;refine bA ?_;refine ag ?_;refine ab (au rfl (fun hp=>?_) fun hp=>?_)
   .refine ws ?_;refine SS ?_;refine ab (aU (b7 (aQ (ax (d:=B false) rfl ?_))));rw[oe (by revert hp;unfold r5 lm;rw[ha];grind)]
   .refine b8 ?_;refine aw ?_;refine ab (aH (k+1) (ap eH) ⟨by omega,nC (by revert hp;unfold r5 lm;rw[ha];grind)⟩ oG)
  .have aY:¬ k<f.aj.length:=by simpa using h
   exact⟨ap eH,PE fun j x hx=>hinv j x (by have:=(List.getElem?_eq_some_iff.1 hx).1;omega) hx⟩
 rintro s ⟨hg,e1,e2⟩;clear SF PE;rw[e1,e2,Bool.true_and,Bool.true_and];refine⟨_,hg,aD (av ?_)⟩;refine SS ?_
 refine ab (bG (fun s=>Ghost prog s ⟨ay [(1,.pt (aC f))],fun _=>none,1⟩/\dO f.aP 2=true) (cq (α:=Nat) (fun k=>⟨ay [(1,.pt (aC f)),(4,I k)],fun _=>none,1⟩)
  (fun k=>k<=f.aP.length/\∀ (j:Nat) x,j<k->f.aP[j]? =some x->lm 2 x=false) (fun k=>f.aP.length - k) 0 (ap eH) ⟨by omega,fun j y hj=>by omega⟩ ?_) ?_)
 .rintro k ⟨hk,hinv⟩;refine aV ?_;refine ab ⟨_,rfl,fun h=>?_,fun h=>?_⟩
  .have ao:k<f.aP.length:=by simpa using h
   have hx:f.aP[k]? =some f.aP[k]:=List.getElem?_eq_getElem ao;generalize f.aP[k]=x at hx;refine ws ?_;refine aL ?_;refine aV ?_;refine ab (au rfl (fun hp=>?_) fun hp=>?_)
   .refine ws ?_;refine SS ?_;refine ab (aU (b7 (aQ (ax (d:=B false) rfl ?_))))
    have:dO f.aP 2=false:=by
     unfold dO;rw[List.any_eq_true.2 ⟨x,List.mem_of_getElem? hx,by revert hp;unfold lm;grind⟩];rfl
    rw[this];rfl
   .refine b8 ?_;refine aw ?_;refine ab (aH (k+1) (ap eH) ⟨by omega,fun j y hj hy=>?_⟩ oG);by_cases e:j=k
    .subst e;rw[hx] at hy;cases hy;revert hp;unfold lm;grind
    .exact hinv j y oG hy
  .have aY:¬ k<f.aP.length:=by simpa using h
   refine⟨ap eH,?_⟩;unfold dO;rw[Bool.not_eq_true',List.any_eq_false];intro x hx;obtain⟨j,hj⟩:=List.getElem?_of_mem hx;rw[hinv j x (by have:=(List.getElem?_eq_some_iff.1 hj).1;omega) hj];simp
 rintro s ⟨hg,e3⟩;rw[e3,Bool.true_and];clear e1 e2 e3;have T6:∀ b:Bool,b=(!(f.signals.any fun s=> !isName s)&&l0 f)->b=((!f.signals.any fun s=> !isName s)&&l0 f):=fun b h=>h
 have C:∀ (j:Nat) x,f.signals[j]? =some x->isName x=false->((!f.signals.any fun s=> !isName s)&&l0 f)=false:=fun j x hx hb=>by
  rw[List.any_eq_true.2 ⟨x,List.mem_of_getElem? hx,by rw[hb];rfl⟩];rfl
 have J:∀ (j:Nat) x y,f.signals[j]? =some x->f.signals[j+1]? =some y->Op.bytesLess x.toList y.toList=false->((!f.signals.any fun s=> !isName s)&&l0 f)=false:=fun j x y hx hy hb=>by
  have:l0 f=false:=by
   unfold l0;refine mP (k:=j) (by have:=(List.getElem?_eq_some_iff.1 hy).1;omega) ?_;unfold rO;rw[getD_some hx,getD_some hy,hb]
  rw[this,Bool.and_false]
 refine⟨_,hg,aD (av ?_)⟩;refine SS ?_
 refine ab (bG (fun s=>Ghost prog s ⟨ay [],fun _=>none,1⟩/\((!f.signals.any fun s=> !isName s)&&l0 f)=true) (cq (α:=Nat) (fun k=>⟨ay [(1,.pt (aC f)),(5,I k)],fun _=>none,1⟩)
  (fun k=>k<=f.signals.length/\(∀ (j:Nat) x,j<k->f.signals[j]? =some x->isName x=true)/\∀ (j:Nat) x y,j+1<k->f.signals[j]? =some x->f.signals[j+1]? =some y->Op.bytesLess x.toList y.toList=true) (fun k=>f.signals.length - k) 0 (ap eH) ⟨by omega,fun j y hj=>by omega,fun j x y hj=>by omega⟩ ?_) ?_)
 .rintro k ⟨hk,hinv,SG⟩;refine aV ?_;refine ab ⟨_,rfl,fun h=>?_,fun h=>?_⟩
  .have ao:k<f.signals.length:=by simpa using h
   have hx:f.signals[k]? =some f.signals[k]:=List.getElem?_eq_getElem ao;have mC:=mC (X.sg _ (List.getElem_mem ao));generalize f.signals[k]=x at hx mC
   have lO:isName x=true->∀ (j:Nat) y,j<k+1->f.signals[j]? =some y->isName y=true:=fun hq j y hj hy=>by
    by_cases e:j=k
    .subst e;rw[hx] at hy;cases hy;exact hq
    .exact hinv j y oG hy
   have tV:=C k x hx;generalize isName x=nb at mC lO tV;refine dd W8 ?_;cases nb with
   |false=>
    refine aV ?_;refine cl mC ?_;refine aL ?_;(iterate 2 refine z fun _ _=>?_);refine aV ?_;(iterate 2 refine z fun _ _=>?_);refine SS ?_;refine bj (by simp[apartT]) (au rfl (fun hp=>?_) fun hp=>(by cases hp));refine ws ?_;refine SS ?_;refine ab (aU (b7 (aQ (ax (d:=B false) rfl ?_))));rw[tV rfl]
   |true=>
    cases k with
    |zero=>
     have tq:decide ((0:Int)<((0:Nat):Int))=false:=rfl;refine aV ?_;refine cl mC ?_;refine aL ?_;(iterate 2 refine z fun _ _=>?_);refine aV ?_;refine z fun _ _=>?_;refine ag ?_;refine bj (by simp[apartT]) (au rfl (fun hp=>(by cases hp)) fun hp=>b8 ?_);refine aw ?_;refine ab (aH 1 (ap eH) ⟨by omega,lO rfl,fun j x y hj=>by omega⟩ oG)
    |succ i=>
     have tq:decide ((0:Int)<((i+1:Nat):Int))=true:=decide_eq_true oG;have uY:((i+1:Nat):Int) - 1=(i:Int)/\ -9223372036854775808<=(i:Int)/\(i:Int)<=9223372036854775807:=by omega
     have hy:f.signals[i]? =some f.signals[i]:=List.getElem?_eq_getElem oG;generalize f.signals[i]=y at hy;have cO:=J i y x hy hx
     have zA:Op.bytesLess y.toList x.toList=true->∀ (j:Nat) x y,j+1<i+1+1->f.signals[j]? =some x->f.signals[j+1]? =some y->Op.bytesLess x.toList y.toList=true:=fun hq j u v hj hu hv=>by
      by_cases e:j=i
      .subst e;rw[hy] at hu;cases hu;rw[hx] at hv;cases hv;exact hq
      .exact SG j u v oG hu hv
     refine aV ?_;refine cl mC ?_;refine aL ?_;refine cK ?_;refine bm rfl rfl (O5 rfl rfl) (fun hc=>⟨ak,trivial⟩) ?_;refine ag ?_;refine bj (by simp[apartT]) (au rfl (fun hp=>?_) fun hp=>?_)
     .refine ws ?_;refine SS ?_;refine ab (aU (b7 (aQ (ax (d:=B false) rfl ?_))));rw[cO (by revert hp;generalize Op.bytesLess y.toList x.toList=q;cases q<;>simp)]
     .refine b8 ?_;refine aw ?_;refine ab (aH (i+1+1) (ap eH) ⟨by omega,lO rfl,zA (by revert hp;generalize Op.bytesLess y.toList x.toList=q;cases q<;>simp)⟩ oG)
  .have aY:¬ k<f.signals.length:=by simpa using h
   refine⟨.forget _ _ _ _ fun _=>.inr rfl,?_⟩;rw[Bool.and_eq_true];constructor
   .rw[Bool.not_eq_true',List.any_eq_false];intro x hx;obtain⟨j,hj⟩:=List.getElem?_of_mem hx;rw[hinv j x (by have:=(List.getElem?_eq_some_iff.1 hj).1;omega) hj];simp
   .unfold l0;refine List.all_eq_true.2 fun j hj=>?_;have hj:j<f.signals.length - 1:=by simpa using hj
    have h1:f.signals[j]? =some f.signals[j]:=List.getElem?_eq_getElem oG;have h2:f.signals[j+1]? =some f.signals[j+1]:=List.getElem?_eq_getElem oG;unfold rO;rw[getD_some h1,getD_some h2];exact SG j _ _ oG h1 h2
 rintro s ⟨hg,e4⟩;rw[e4];refine⟨_,hg,an ?_⟩;refine SS ?_;exact ab (ax rfl rfl)
section
variable{f:aA}{hd:D}(ht:Tr hd)(cU:hd.one=true)
include ht cU
theorem Jh{x:aW}:PCall prog 220 [.agg (bF f hd),.agg (a8 x)] (B (jV f x)):=by
 have bB:∀ {r k:Int},PCall prog 215 [.agg (bF f hd),I r,U8 k] (B (bg f r k)):=fun {r k}=>bB ht cU;have sx:∀ {l:List Int},PCall prog 217 [.agg (bF f hd),az l] (B (fm f.aj l)):=fun {l}=>sx ht cU;refine aX mixed SH (by rw[agp];rfl) (.cons (.agg (ta ht f)) (.cons (.agg (mW x)) .nil)) (Tr.s _) ?_;rw[agq,agr];refine av ?_;refine aw ?_;refine ab (aJ (bp [(0,bF f hd,208),(1,a8 x,66)] eH (l:=[(2,.pt (bF f hd)),(3,.pt (a8 x))]) eH) (aD (an ?_)));refine ag ?_;refine ab (lW ?_);refine dB (fun s=>Ghost prog s ⟨ay [(2,.pt (bF f hd)),(3,.pt (a8 x)),(6,U8 x.op),(7,B (aG [30,31,32,33,34] x.op))],fun _=>none,2⟩) (an ?_) fun s hg=>⟨_,hg,?_⟩
 .refine ag ?_;refine ab (au rfl (fun h=>aZ (ap ⟨rfl,rfl,rfl,cy h oC,trivial⟩)) fun C=>an ?_);refine ag ?_;refine ab (au rfl (fun h=>aZ (ap ⟨rfl,rfl,rfl,cy h oC,trivial⟩)) fun J=>an ?_);refine ag ?_;refine ab (au rfl (fun h=>aZ (ap ⟨rfl,rfl,rfl,cy h oC,trivial⟩)) fun U=>an ?_);refine ag ?_;refine ab (au rfl (fun h=>aZ (ap ⟨rfl,rfl,rfl,cy h oC,trivial⟩)) fun X=>j9 ?_);refine ag ?_;refine ab (ap ⟨rfl,rfl,rfl,?_,trivial⟩);show D.s (.bool (x.op==34))=_;simp only[aG,List.any_cons,List.any_nil,C,J,U,X,Bool.false_or,Bool.or_false]
 refine au rfl (fun h0=>an ?_) fun h0=>an ?_
 .have bO:PCall prog 214 [.agg (a8 x),S ⟨#[116,97,98]⟩] (B (bE x [116,97,98])):=bO oC;refine SS ?_;refine cl bO ?_;refine aF ?_;refine gc bB ?_;refine aV ?_;refine gc bB ?_;refine aV ?_;refine gc bB ?_;refine ag ?_;refine ab (aU (bu (aQ (ax (d:=.s (.bool _)) rfl ?_))));have e:jV f x=(bE x [116,97,98]&&(bg f x.to 119&&(bg f x.a 119&&bg f x.b 119))):=by rw[jV,if_pos h0]
  rw[e];simp only[fH,Bool.and_assoc,aM]
 refine ag ?_;refine ab (au rfl (fun h1=>an ?_) fun h1=>an ?_)
 .have bO:PCall prog 214 [.agg (a8 x),S ⟨#[97,98]⟩] (B (bE x [97,98])):=bO oC;refine SS ?_;refine cl bO ?_;refine aF ?_;refine gc bB ?_;refine aV ?_;refine gc bB ?_;refine ag ?_;refine ab (aU (bu (aQ (ax (d:=.s (.bool _)) rfl ?_))));have e:jV f x=(bE x [97,98]&&(bg f x.a 114&&bg f x.b 118)):=by rw[jV,if_neg (by rw[h0];decide),if_pos (by simpa using h1)]
  rw[e];simp only[fH,Bool.and_assoc,aM]
 have h1:¬ x.op=35:=by simpa using h1
 refine ag ?_;refine ab (au rfl (fun h2=>an ?_) fun h2=>an ?_)
 .have bO:PCall prog 214 [.agg (a8 x),S ⟨#[116,97]⟩] (B (bE x [116,97])):=bO oC;refine SS ?_;refine cl bO ?_;refine aF ?_;refine gc bB ?_;refine aV ?_;refine gc bB ?_;refine ag ?_;refine ab (aU (bu (aQ (ax (d:=.s (.bool _)) rfl ?_))));have e:jV f x=(bE x [116,97]&&(bg f x.to 118&&bg f x.a 114)):=by rw[jV,if_neg (by rw[h0];decide),if_neg h1,if_pos (by simpa using h2)]
  rw[e];simp only[fH,Bool.and_assoc,aM]
 have h2:¬ x.op=36:=by simpa using h2
 refine ag ?_;refine ab (au rfl (fun h3=>an ?_) fun h3=>an ?_)
 .have bO:PCall prog 214 [.agg (a8 x),S ⟨#[116,97,98]⟩] (B (bE x [116,97,98])):=bO oC;refine SS ?_;refine cl bO ?_;refine aF ?_;refine gc bB ?_;refine aV ?_;refine gc bB ?_;refine aV ?_;refine gc bB ?_;refine ag ?_;refine ab (aU (bu (aQ (ax (d:=.s (.bool _)) rfl ?_))));have e:jV f x=(bE x [116,97,98]&&(bg f x.to 118&&(bg f x.a 114&&bg f x.b 119))):=by rw[jV,if_neg (by rw[h0];decide),if_neg h1,if_neg h2,if_pos (by simpa using h3)]
  rw[e];simp only[fH,Bool.and_assoc,aM]
 have h3:¬ x.op=37:=by simpa using h3
 refine ag ?_;refine ab (au rfl (fun h4=>an ?_) fun h4=>lx (an ?_))
 .have bO:PCall prog 214 [.agg (a8 x),S ⟨#[97,98,108]⟩] (B (bE x [97,98,108])):=bO oC;refine SS ?_;refine cl bO ?_;refine aF ?_;refine gc bB ?_;refine aV ?_;refine gc bB ?_;refine aL ?_;refine ag ?_;refine gc sx ?_;refine ag ?_;refine ab (aU (bu (aQ (ax (d:=.s (.bool _)) rfl ?_))));have e:jV f x=(bE x [97,98,108]&&(bg f x.a 114&&(bg f x.b 119&&(aM x.args.length 1&&fm f.aj x.args)))):=by rw[jV,if_neg (by rw[h0];decide),if_neg h1,if_neg h2,if_neg h3,if_pos (by simpa using h4)]
  rw[e];simp only[fH,Bool.and_assoc,aM];rfl
 have h4:¬ x.op=38:=by simpa using h4
 refine SS ?_;refine ab (ax (d:=.s (.bool _)) rfl ?_);rw[jV,if_neg (by rw[h0];decide),if_neg h1,if_neg h2,if_neg h3,if_neg h4]
end
theorem qV{f:aA}{L:List (List Int)}{b:Nat}{A:List Int}{x:aW}(hb:L[b]? =some A)(hl:f.aP.length<=60)(hs:∀ k∈f.aP,k=1\/k=2)(hL:L.length<=100000):
 PCall prog 171 [.agg (bF f (bd L)),.agg (a8 x),I b] (B (di f b A.length x)):=by
 have ht:=nI L;have cU:(bd L).one=true:=rfl;have bB:∀ {r k:Int},PCall prog 215 [.agg (bF f (bd L)),I r,U8 k] (B (bg f r k)):=fun {r k}=>bB ht cU;have xc:∀ {a b:Int},PCall prog 216 [.agg (bF f (bd L)),I a,I b] (B (je f a b)):=fun {a b}=>xc ht cU;have sx:∀ {l:List Int},PCall prog 217 [.agg (bF f (bd L)),az l] (B (fm f.aj l)):=fun {l}=>sx ht cU;have EH:∀ {n r:Int},PCall prog 218 [.agg (bF f (bd L)),I n,I r] (B (kO f.aj f.aP r n)):=fun {n r}=>EH ht cU hl hs;have fw:∀ {n a b:Int},PCall prog 212 [I n,I a,I b] (B (cA n a b)):=fun {n a b}=>fw;have aR:∀ a∈[D.agg (bF f (bd L)),.agg (a8 x),I b],Tr a:=.cons (.agg (ta ht f)) (.cons (.agg (mW x)) (.cons (.s _) .nil));refine lj Iq.he aR fun eu=>?_;have hlen:x.args.length<=maxLen:=((eu _ (List.mem_cons_of_mem _ (List.mem_cons_self ..))).agg (az x.args) (by simp[a8])).sl.1;unfold maxLen at hlen;refine aX mixed Iq (by rw[ags];rfl) aR (Tr.s _) ?_;rw[agt,agu];refine av ?_;refine aw ?_;refine ab (aJ (bp [(0,bF f (bd L),208),(1,a8 x,66)] eH (l:=[(2,I b),(3,.pt (bF f (bd L))),(4,.pt (a8 x))]) eH) (aD (an ?_)));refine ag ?_;refine ab (lW ?_);refine ws ?_;refine ag ?_;refine ab (au rfl (fun h0=>?_) fun h0=>?_)
 .refine ws ?_;have bO:PCall prog 214 [.agg (a8 x),S ⟨#[116,110]⟩] (B (bE x [116,110])):=bO oC;refine SS ?_;refine cl bO ?_;refine aF ?_;refine gc bB ?_;refine aF ?_;refine gc fw ?_;refine ag ?_;refine ab (aU (bu (aQ (ax (d:=.s (.bool _)) rfl ?_))));have e:di f b A.length x=(bE x [116,110]&&(bg f x.to 119&&cA x.n (-1000000000) 1000000000)):=by rw[di,if_pos (by simpa using h0)]
  rw[e];simp only[fH,Bool.and_assoc,aM]
 have h0:¬ x.op=1:=by simpa using h0
 refine ws ?_;refine ag ?_;refine ab (au rfl (fun h1=>?_) fun h1=>?_)
 .refine ws ?_;have bO:PCall prog 214 [.agg (a8 x),S ⟨#[116,97]⟩] (B (bE x [116,97])):=bO oC;refine SS ?_;refine cl bO ?_;refine bD ?_;refine gc xc ?_;refine ag ?_;refine ab (aU (bu (aQ (ax (d:=.s (.bool _)) rfl ?_))));have e:di f b A.length x=(bE x [116,97]&&je f x.to x.a):=by rw[di,if_neg h0,if_pos (by simpa using h1)]
  rw[e];simp only[fH,Bool.and_assoc,aM]
 have h1:¬ x.op=2:=by simpa using h1
 refine dB (fun s=>Ghost prog s ⟨ay [(2,I b),(3,.pt (bF f (bd L))),(4,.pt (a8 x)),(9,U8 x.op),(37,B (aG [3,4,6,7] x.op))],fun _=>none,2⟩) (an ?_) fun s hg=>⟨_,hg,?_⟩
 .refine ag ?_;refine ab (au rfl (fun h=>aZ (ap ⟨rfl,rfl,rfl,rfl,cy h oC,trivial⟩)) fun e3=>an ?_);refine ag ?_;refine ab (au rfl (fun h=>aZ (ap ⟨rfl,rfl,rfl,rfl,cy h oC,trivial⟩)) fun e4=>an ?_);refine ag ?_;refine ab (au rfl (fun h=>aZ (ap ⟨rfl,rfl,rfl,rfl,cy h oC,trivial⟩)) fun e6=>j9 ?_);refine ag ?_;refine ab (ap ⟨rfl,rfl,rfl,rfl,?_,trivial⟩);show D.s (.bool (x.op==7))=_;simp only[aG,List.any_cons,List.any_nil,e3,e4,e6,Bool.false_or,Bool.or_false]
 refine au rfl (fun h2=>an ?_) fun h2=>?_
 .have bO:PCall prog 214 [.agg (a8 x),S ⟨#[116,97,98]⟩] (B (bE x [116,97,98])):=bO oC;refine SS ?_;refine cl bO ?_;refine aF ?_;refine gc bB ?_;refine aV ?_;refine gc bB ?_;refine aV ?_;refine gc bB ?_;refine ag ?_;refine ab (aU (bu (aQ (ax (d:=.s (.bool _)) rfl ?_))));have e:di f b A.length x=(bE x [116,97,98]&&(bg f x.to 119&&(bg f x.a 119&&bg f x.b 119))):=by rw[di,if_neg h0,if_neg h1,if_pos h2]
  rw[e];simp only[fH,Bool.and_assoc,aM]
 refine ws ?_;refine ag ?_;refine ab (au rfl (fun h3=>?_) fun h3=>?_)
 .refine ws ?_;have bO:PCall prog 214 [.agg (a8 x),S ⟨#[116,97,98]⟩] (B (bE x [116,97,98])):=bO oC;refine SS ?_;refine cl bO ?_;refine aF ?_;refine gc bB ?_;refine cK ?_;refine gc xc ?_;refine ag ?_;refine ab (aU (bu (aQ (ax (d:=.s (.bool _)) rfl ?_))));have e:di f b A.length x=(bE x [116,97,98]&&(bg f x.to 119&&je f x.a x.b)):=by rw[di,if_neg h0,if_neg h1,if_neg (by rw[h2];decide),if_pos (by simpa using h3)]
  rw[e];simp only[fH,Bool.and_assoc,aM]
 have h3:¬ x.op=5:=by simpa using h3
 refine ws ?_;refine ag ?_;refine ab (au rfl (fun h4=>?_) fun h4=>?_)
 .refine ws ?_;have bO:PCall prog 214 [.agg (a8 x),S ⟨#[116,97]⟩] (B (bE x [116,97])):=bO oC;refine SS ?_;refine cl bO ?_;refine aF ?_;refine gc bB ?_;refine aV ?_;refine gc bB ?_;refine ag ?_;refine ab (aU (bu (aQ (ax (d:=.s (.bool _)) rfl ?_))));have e:di f b A.length x=(bE x [116,97]&&(bg f x.to 119&&bg f x.a 119)):=by rw[di,if_neg h0,if_neg h1,if_neg (by rw[h2];decide),if_neg h3,if_pos (by simpa using h4)]
  rw[e];simp only[fH,Bool.and_assoc,aM]
 have h4:¬ x.op=8:=by simpa using h4
 refine ws ?_;refine ag ?_;refine ab (au rfl (fun h5=>?_) fun h5=>?_)
 .refine ws ?_;have bO:PCall prog 214 [.agg (a8 x),S ⟨#[116,110]⟩] (B (bE x [116,110])):=bO oC;refine SS ?_;refine cl bO ?_;refine aF ?_;refine gc bB ?_;refine aF ?_;refine gc fw ?_;refine ag ?_;refine ab (aU (bu (aQ (ax (d:=.s (.bool _)) rfl ?_))));have e:di f b A.length x=(bE x [116,110]&&(bg f x.to 114&&cA x.n 0 1)):=by rw[di,if_neg h0,if_neg h1,if_neg (by rw[h2];decide),if_neg h3,if_neg h4,if_pos (by simpa using h5)]
  rw[e];simp only[fH,Bool.and_assoc,aM]
 have h5:¬ x.op=9:=by simpa using h5
 refine ws ?_;refine ag ?_;refine ab (au rfl (fun C=>?_) fun C=>?_)
 .refine ws ?_;have bO:PCall prog 214 [.agg (a8 x),S ⟨#[116,110,108]⟩] (B (bE x [116,110,108])):=bO oC;refine SS ?_;refine cl bO ?_;refine aF ?_;refine gc bB ?_;refine aF ?_;refine gc fw ?_;refine aV ?_;refine gc fw ?_;refine aV ?_;refine gc sx ?_;refine ag ?_;refine ab (aU (bu (aQ (ax (d:=.s (.bool _)) rfl ?_))));have e:di f b A.length x=(bE x [116,110,108]&&(bg f x.to 114&&(cA x.n 0 5&&(cA x.args.length 1 6&&fm f.aj x.args)))):=by rw[di,if_neg h0,if_neg h1,if_neg (by rw[h2];decide),if_neg h3,if_neg h4,if_neg h5,if_pos (by simpa using C)]
  rw[e];simp only[fH,Bool.and_assoc,aM]
 have C:¬ x.op=10:=by simpa using C
 refine ws ?_;refine ag ?_;refine ab (au rfl (fun J=>?_) fun J=>?_)
 .refine ws ?_;have bO:PCall prog 214 [.agg (a8 x),S ⟨#[116,97,110]⟩] (B (bE x [116,97,110])):=bO oC;refine SS ?_;refine cl bO ?_;refine aF ?_;refine gc bB ?_;refine aV ?_;refine gc bB ?_;refine aF ?_;refine gc fw ?_;refine ag ?_;refine ab (aU (bu (aQ (ax (d:=.s (.bool _)) rfl ?_))));have e:di f b A.length x=(bE x [116,97,110]&&(bg f x.to 118&&(bg f x.a 114&&cA x.n 0 5))):=by rw[di,if_neg h0,if_neg h1,if_neg (by rw[h2];decide),if_neg h3,if_neg h4,if_neg h5,if_neg C,if_pos (by simpa using J)]
  rw[e];simp only[fH,Bool.and_assoc,aM]
 have J:¬ x.op=11:=by simpa using J
 refine ws ?_;refine ag ?_;refine ab (au rfl (fun U=>?_) fun U=>?_)
 .refine ws ?_;have bO:PCall prog 214 [.agg (a8 x),S ⟨#[97,98,110]⟩] (B (bE x [97,98,110])):=bO oC;refine SS ?_;refine cl bO ?_;refine aF ?_;refine gc bB ?_;refine aV ?_;refine gc bB ?_;refine aF ?_;refine gc fw ?_;refine ag ?_;refine ab (aU (bu (aQ (ax (d:=.s (.bool _)) rfl ?_))));have e:di f b A.length x=(bE x [97,98,110]&&(bg f x.a 114&&(bg f x.b 118&&cA x.n 0 5))):=by rw[di,if_neg h0,if_neg h1,if_neg (by rw[h2];decide),if_neg h3,if_neg h4,if_neg h5,if_neg C,if_neg J,if_pos (by simpa using U)]
  rw[e];simp only[fH,Bool.and_assoc,aM]
 have U:¬ x.op=12:=by simpa using U
 refine dB (fun s=>Ghost prog s ⟨ay [(2,I b),(3,.pt (bF f (bd L))),(4,.pt (a8 x)),(9,U8 x.op),(180,B (aG [13,14] x.op))],fun _=>none,2⟩) (an ?_) fun s hg=>⟨_,hg,?_⟩
 .refine ag ?_;refine ab (au rfl (fun h=>aZ (ap ⟨rfl,rfl,rfl,rfl,cy h oC,trivial⟩)) fun ua=>j9 ?_);refine ag ?_;refine ab (ap ⟨rfl,rfl,rfl,rfl,?_,trivial⟩);show D.s (.bool (x.op==14))=_;simp only[aG,List.any_cons,List.any_nil,ua,Bool.false_or,Bool.or_false]
 refine au rfl (fun h9=>an ?_) fun h9=>?_
 .have bO:PCall prog 214 [.agg (a8 x),S ⟨#[116,97]⟩] (B (bE x [116,97])):=bO oC;refine SS ?_;refine cl bO ?_;refine aF ?_;refine gc bB ?_;refine aV ?_;refine gc bB ?_;refine ag ?_;refine ab (aU (bu (aQ (ax (d:=.s (.bool _)) rfl ?_))));have e:di f b A.length x=(bE x [116,97]&&(bg f x.to 119&&bg f x.a 114)):=by rw[di,if_neg h0,if_neg h1,if_neg (by rw[h2];decide),if_neg h3,if_neg h4,if_neg h5,if_neg C,if_neg J,if_neg U,if_pos h9]
  rw[e];simp only[fH,Bool.and_assoc,aM]
 refine ws ?_;refine ag ?_;refine ab (au rfl (fun X=>?_) fun X=>?_)
 .refine ws ?_;have bO:PCall prog 214 [.agg (a8 x),S ⟨#[97]⟩] (B (bE x [97])):=bO oC;refine SS ?_;refine cl bO ?_;refine aF ?_;refine gc bB ?_;refine ag ?_;refine ab (aU (bu (aQ (ax (d:=.s (.bool _)) rfl ?_))));have e:di f b A.length x=(bE x [97]&&bg f x.a 119):=by rw[di,if_neg h0,if_neg h1,if_neg (by rw[h2];decide),if_neg h3,if_neg h4,if_neg h5,if_neg C,if_neg J,if_neg U,if_neg (by rw[h9];decide),if_pos (by simpa using X)]
  rw[e];simp only[fH,Bool.and_assoc,aM]
 have X:¬ x.op=15:=by simpa using X
 refine ws ?_;refine ag ?_;refine ab (au rfl (fun ru=>?_) fun ru=>?_)
 .refine ws ?_;have bO:PCall prog 214 [.agg (a8 x),S ⟨#[97]⟩] (B (bE x [97])):=bO oC;refine SS ?_;refine cl bO ?_;refine aF ?_;refine gc bB ?_;refine ag ?_;refine ab (aU (bu (aQ (ax (d:=.s (.bool _)) rfl ?_))));have e:di f b A.length x=(bE x [97]&&bg f x.a 105):=by rw[di,if_neg h0,if_neg h1,if_neg (by rw[h2];decide),if_neg h3,if_neg h4,if_neg h5,if_neg C,if_neg J,if_neg U,if_neg (by rw[h9];decide),if_neg X,if_pos (by simpa using ru)]
  rw[e];simp only[fH,Bool.and_assoc,aM]
 have ru:¬ x.op=16:=by simpa using ru
 refine ws ?_;refine ag ?_;refine ab (au rfl (fun sP=>?_) fun sP=>?_)
 .refine ws ?_;have bO:PCall prog 214 [.agg (a8 x),S ⟨#[116,110]⟩] (B (bE x [116,110])):=bO oC;refine SS ?_;refine cl bO ?_;refine bD ?_;refine gc EH ?_;refine ag ?_;refine ab (aU (bu (aQ (ax (d:=.s (.bool _)) rfl ?_))));have e:di f b A.length x=(bE x [116,110]&&kO f.aj f.aP x.to x.n):=by rw[di,if_neg h0,if_neg h1,if_neg (by rw[h2];decide),if_neg h3,if_neg h4,if_neg h5,if_neg C,if_neg J,if_neg U,if_neg (by rw[h9];decide),if_neg X,if_neg ru,if_pos (by simpa using sP)]
  rw[e];simp only[fH,Bool.and_assoc,aM]
 have sP:¬ x.op=17:=by simpa using sP
 refine ws ?_;refine ag ?_;refine ab (au rfl (fun uh=>?_) fun uh=>?_)
 .refine ws ?_;have bO:PCall prog 214 [.agg (a8 x),S ⟨#[97,110]⟩] (B (bE x [97,110])):=bO oC;refine SS ?_;refine cl bO ?_;refine bD ?_;refine gc EH ?_;refine ag ?_;refine ab (aU (bu (aQ (ax (d:=.s (.bool _)) rfl ?_))));have e:di f b A.length x=(bE x [97,110]&&kO f.aj f.aP x.a x.n):=by rw[di,if_neg h0,if_neg h1,if_neg (by rw[h2];decide),if_neg h3,if_neg h4,if_neg h5,if_neg C,if_neg J,if_neg U,if_neg (by rw[h9];decide),if_neg X,if_neg ru,if_neg sP,if_pos (by simpa using uh)]
  rw[e];simp only[fH,Bool.and_assoc,aM]
 have uh:¬ x.op=18:=by simpa using uh
 refine ws ?_;refine ag ?_;refine ab (au rfl (fun CH=>?_) fun CH=>?_)
 .have bO:PCall prog 214 [.agg (a8 x),S ⟨#[116,108]⟩] (B (bE x [116,108])):=bO oC;have hv:di f b A.length x=(!aM b 0&&(bE x [116,108]&&(bg f x.to 118&&(aM x.args.length A.length&&x.args.all (je f x.to))))):=by rw[di,if_neg h0,if_neg h1,if_neg (by rw[h2];decide),if_neg h3,if_neg h4,if_neg h5,if_neg C,if_neg J,if_neg U,if_neg (by rw[h9];decide),if_neg X,if_neg ru,if_neg sP,if_neg uh,if_pos (by simpa using CH)]
  rw[hv];clear hv;have Ir:=bO;have Is:= @bB x.to 118;have agv:= @xc x.to;generalize bE x [116,108]=lv at Ir ⊢;generalize bg f x.to 118=iv at Is ⊢;refine aD (dd W9 ?_);have bO:=Ir;have bB:=Is;by_cases Fw:b=0
  .have dI:((b:Int)==0)=true:=by simp[Fw]
   have e0:aM b 0=true:=by simp[aM,Fw]
   rw[e0];refine aF ?_;refine gc bO ?_;refine bD ?_;refine gc bB ?_;refine aL ?_;refine aV ?_;refine bj (by simp[apartT]) (bC rfl (fun hp=>?_) fun hp=>(by cases hp));refine aD (an ?_);refine SS ?_;refine ab (dx (bu (aQ (ax (d:=B false) rfl ?_))));rfl
  have dI:((b:Int)==0)=false:=by simp[Fw]
  have e0:aM b 0=false:=by simp[aM,Fw]
  rw[e0];refine aF ?_;refine gc bO ?_;refine bD ?_;refine gc bB ?_;refine aL ?_;refine aV ?_;refine bj (by simp[apartT]) (bC rfl (fun hp=>?_) fun hp=>cx ?_)
  .refine aD (an ?_);refine SS ?_;refine ab (dx (bu (aQ (ax (d:=B false) rfl ?_))))
   have:(lv&&(iv&&aM x.args.length A.length))=false:=by
    revert hp;cases lv<;>cases iv<;>simp[aM]
   revert this;generalize x.args.all (je f x.to)=q;generalize aM x.args.length A.length=r;cases lv<;>cases iv<;>cases r<;>simp
  have tI:lv=true/\iv=true/\aM x.args.length A.length=true:=by
   revert hp;cases lv<;>cases iv<;>simp[aM]
  obtain⟨rfl,rfl,e1⟩:=tI;rw[e1];show AW _ _ _ _ (blockQ _ (seqQ _ (retQ _ _ (fun d _=>d=B (x.args.all (je f x.to)))))) _;clear Ir Is bO bB hp e1 e0 dI;refine aD (av ?_);refine SS ?_
  refine ab (bG (fun s=>Ghost prog s ⟨ay [],fun _=>none,2⟩/\∀ (j:Nat) y,x.args[j]? =some y->je f x.to y=true) (cq (α:=Nat) (fun k=>⟨ay [(3,.pt (bF f (bd L))),(4,.pt (a8 x)),(7,I k)],fun _=>none,2⟩)
   (fun k=>k<=x.args.length/\∀ j y,j<k->x.args[j]? =some y->je f x.to y=true) (fun k=>x.args.length - k) 0 (ap eH) ⟨by omega,fun j y hj=>by omega⟩ ?_) ?_)
  .rintro k ⟨hk,hinv⟩;refine aV ?_;refine ab ⟨_,rfl,fun h=>?_,fun h=>?_⟩
   .have ao:k<x.args.length:=by simpa using h
    have hx:x.args[k]? =some x.args[k]:=List.getElem?_eq_getElem ao;generalize x.args[k]=y at hx;have xc:= @agv y;refine dd Xa ?_;refine bA ?_;refine cl xc ?_;refine SS ?_;refine bj (by simp[apartT]) (au rfl (fun hp=>?_) fun hp=>?_)
    .refine ws ?_;refine SS ?_;refine ab (aU (b7 (aQ (bu (aQ (ax (d:=B false) rfl ?_))))));have:x.args.all (je f x.to)=false:=List.all_eq_false.2 ⟨y,List.mem_of_getElem? hx,by simpa using hp⟩;rw[this]
    .refine b8 ?_;refine aw ?_;refine ab (aH (k+1) (ap eH) ⟨by omega,fun j z hj hz=>?_⟩ oG);by_cases e:j=k
     .subst e;rw[hx] at hz;cases hz;simpa using hp
     .exact hinv j z oG hz
   .have aY:¬ k<x.args.length:=by simpa using h
    exact⟨.forget _ _ _ _ fun _=>.inr rfl,fun j y hy=>hinv j y (by have:=(List.getElem?_eq_some_iff.1 hy).1;omega) hy⟩
  .rintro s ⟨hg,bH⟩;refine⟨_,hg,an ?_⟩;refine SS ?_;refine ab (aU (bu (aQ (ax (d:=B true) rfl ?_))))
   have:x.args.all (je f x.to)=true:=List.all_eq_true.2 fun y hy=>by
    obtain⟨j,hj⟩:=List.getElem?_of_mem hy;exact bH j y hj
   rw[this]
 have CH:¬ x.op=19:=by simpa using CH
 refine lx (an ?_);refine SS ?_;refine ab (ax (d:=.s (.bool _)) rfl ?_);rw[di,if_neg h0,if_neg h1,if_neg (by rw[h2];decide),if_neg h3,if_neg h4,if_neg h5,if_neg C,if_neg J,if_neg U,if_neg (by rw[h9];decide),if_neg X,if_neg ru,if_neg sP,if_neg uh,if_neg CH]
section
variable{f:aA}{hd:D}(ht:Tr hd)(cU:hd.one=true)
include ht cU
theorem BW{x:Argus.End}(hw:∀ w∈x.aE,w.name.size<=maxLen)(hn:f.blocks.length<=1200):PCall prog 221 [.agg (bF f hd),.agg (aT x)] (B (lp f x)):=by
 have fJ:∀ {b:Int},PCall prog 170 [.agg (bF f hd),I b] (B (bN f b)):=fun {b}=>fJ ht cU hn;have aR:∀ a∈[D.agg (bF f hd),.agg (aT x)],Tr a:=.cons (.agg (ta ht f)) (.cons (.agg (ix x)) .nil);refine aX mixed SI (by rw[agw];rfl) aR (Tr.s _) ?_;rw[agx,agy];refine av ?_;refine aw ?_;refine ab (aJ (bp [(0,bF f hd,208),(1,aT x,69)] eH (l:=[(2,.pt (bF f hd)),(3,.pt (aT x))]) eH) (aD (an ?_)));have hh:lp f x=(DV f x.aE&&(decide ((x.aE.length:Int)<=7)&&(decide (x.cm= -1)||bN f x.cm))):=rfl;rw[hh];clear hh;generalize vM:bN f x.cm=bo;have X:PCall prog 170 [.agg (bF f hd),I x.cm] (B bo):=vM▸fJ;clear vM;have U:= @fJ;clear fJ;have fJ:=X;refine aL ?_;refine aw ?_;refine gc fJ ?_;refine aw ?_;refine ab (bC rfl (fun h=>?_) fun h=>cx (aD (av ?_)))
 .refine aD (an ?_);refine SS ?_;refine ab (dx (ax (d:=B false) rfl ?_))
  have h2:(decide ((x.aE.length:Int)<=7)&&(decide (x.cm= -1)||bo))=false:=by
   revert h;cases bo<;>simp<;>grind
  rw[h2,Bool.and_false]
 have h2:(decide ((x.aE.length:Int)<=7)&&(decide (x.cm= -1)||bo))=true:=by
  revert h;cases bo<;>simp<;>grind
 have h7:x.aE.length<=7:=by
  rw[Bool.and_eq_true,decide_eq_true_eq] at h2;omega
 rw[h2,Bool.and_true];clear h h2 fJ X;refine SS ?_
 refine ab (bG (fun s=>Ghost prog s ⟨ay [],fun _=>none,2⟩/\∀ (j:Nat) y,x.aE[j]? =some y->na f x.aE j y=true) (cq (α:=Nat) (fun k=>⟨ay [(2,.pt (bF f hd)),(3,.pt (aT x)),(5,I k)],fun _=>none,2⟩)
  (fun k=>k<=x.aE.length/\∀ j y,j<k->x.aE[j]? =some y->na f x.aE j y=true) (fun k=>x.aE.length - k) 0 (ap eH) ⟨by omega,fun j y hj=>by omega⟩ ?_) ?_)
 .rintro k ⟨hk,hinv⟩;refine aV ?_;refine ab ⟨_,rfl,fun h=>?_,fun h=>?_⟩
  .have ao:k<x.aE.length:=by simpa using h
   have hx:x.aE[k]? =some x.aE[k]:=List.getElem?_eq_getElem ao;have mC:=mC (hw _ (List.getElem_mem ao));generalize x.aE[k]=w at hx mC;have J:na f x.aE k w=(isName w.name&&(bN f w.to&& !(x.aE.take k).any fun v=>v.name.toList==w.name.toList)):=rfl;have fJ:= @U w.to;generalize isName w.name=a at mC J;generalize bN f w.to=b at fJ J;refine aD (dd Yf ?_);refine bD ?_;refine cl mC ?_;refine bD ?_;refine bm rfl rfl (uD rfl rfl V.h V.h (Ac) oN) (fun hc=>⟨ak,(uE V.h (Ac) oN)⟩) ?_;refine ag ?_;refine gc fJ ?_;refine ag ?_;refine bj (by simp[apartT]) (bC rfl (fun hp=>?_) fun hp=>cx (av ?_))
   .refine aD (an ?_);refine SS ?_;refine ab (dx (b7 (aQ (ax (d:=B false) rfl ?_))))
    have:na f x.aE k w=false:=by
     rw[J];revert hp;cases a<;>cases b<;>simp
    rw[FQ hx this]
   have lP:a=true/\b=true:=by revert hp;cases a<;>cases b<;>simp
   obtain⟨rfl,rfl⟩:=lP;refine SS ?_
   refine ab (cq (α:=Nat) (fun q=>⟨ay [(2,.pt (bF f hd)),(3,.pt (aT x)),(5,I k),(6,I q)],fun _=>none,2⟩)
    (fun q=>q<=k/\∀ j y,j<q->x.aE[j]? =some y->(y.name.toList==w.name.toList)=false) (fun q=>k - q) 0 (ap eH) ⟨by omega,fun j y hj=>by omega⟩ ?_)
   rintro q ⟨hq,mJ⟩;refine aw ?_;refine ab ⟨_,rfl,fun h=>?_,fun h=>?_⟩
   .have rj:q<k:=by simpa using h
    have hy:x.aE[q]? =some x.aE[q]:=List.getElem?_eq_getElem oG;generalize x.aE[q]=y at hy;refine dd Xb ?_;refine aL ?_;refine aw ?_;refine aB (Hp rfl rfl) ak trivial ?_;refine bj (by simp[apartT]) (au rfl (fun hp=>?_) fun hp=>?_)
    .refine ws ?_;refine SS ?_;refine ab (aU (b7 (b7 (aQ (ax (d:=B false) rfl ?_)))))
     have:na f x.aE k w=false:=by
      rw[J,List.any_eq_true.2 ⟨y,List.mem_of_getElem? (i:=q) (by rw[List.getElem?_take,if_pos rj,hy]),hp⟩];rfl
     rw[FQ hx this]
    .refine b8 ?_;refine aw ?_;refine ab (aH (q+1) (ap eH) ⟨by omega,fun j z hj C=>?_⟩ oG);by_cases e:j=q
     .subst e;rw[hy] at C;cases C;exact hp
     .exact mJ j z oG C
   .have aY:¬ q<k:=by simpa using h
    have:q=k:=by omega
    subst this;show AOps _ _ _ _ _ _ _ _ _;refine aw ?_;refine ab (aH (q+1) (ap eH) ⟨by omega,fun j z hj C=>?_⟩ oG);by_cases e:j=q
    .subst e;rw[hx] at C;cases C;rw[J]
     have:((x.aE.take j).any fun v=>v.name.toList==w.name.toList)=false:=List.any_eq_false.2 fun v hv=>by
      obtain⟨i,hi⟩:=List.getElem?_of_mem hv;have nt:i<j:=by have:=(List.getElem?_eq_some_iff.1 hi).1;simp at this;omega
      rw[List.getElem?_take,if_pos nt] at hi;rw[mJ i v nt hi];simp
     rw[this];rfl
    .exact hinv j z oG C
  .have aY:¬ k<x.aE.length:=by simpa using h
   exact⟨.forget _ _ _ _ fun _=>.inr rfl,fun j y hy=>hinv j y (by have:=(List.getElem?_eq_some_iff.1 hy).1;omega) hy⟩
 .rintro s ⟨hg,bH⟩;refine⟨_,hg,an ?_⟩;refine SS ?_;refine ab (ax (d:=B true) rfl ?_);rw[KY bH]
theorem EJ{x:Argus.End}(Fu:x.name.size<=maxLen)(hw:∀ w∈x.aE,w.name.size<=maxLen)(hn:f.blocks.length<=1200):PCall prog 172 [.agg (bF f hd),.agg (aT x)] (B (fy f x)):=by
 have fJ:∀ {b:Int},PCall prog 170 [.agg (bF f hd),I b] (B (bN f b)):=fun {b}=>fJ ht cU hn;have bB:∀ {r k:Int},PCall prog 215 [.agg (bF f hd),I r,U8 k] (B (bg f r k)):=fun {r k}=>bB ht cU;have sx:∀ {l:List Int},PCall prog 217 [.agg (bF f hd),az l] (B (fm f.aj l)):=fun {l}=>sx ht cU;have Jh:PCall prog 220 [.agg (bF f hd),.agg (a8 x.ins)] (B (jV f x.ins)):=Jh ht cU;have BW:=BW ht cU hw hn;have w9:=w9 Fu;have mC:=mC Fu;have aR:∀ a∈[D.agg (bF f hd),.agg (aT x)],Tr a:=.cons (.agg (ta ht f)) (.cons (.agg (ix x)) .nil);refine aX mixed SK (by rw[agA];rfl) aR (Tr.s _) ?_;rw[agB,agC];refine ws ?_;refine aw ?_;refine ab (av ?_);refine SS ?_;refine Ud ?_;refine SS ?_;refine cr (fk (cs':=aC _) rfl rfl rfl rfl) ak (dy V.h V.h (by first|(simp;done)|exact⟨rfl,Nat.le_of_ble_eq_true rfl⟩|(simp;omega)) (by rfl)) ?_;refine ab (aJ (bp [(0,bF f hd,208),(1,aT x,69),(2,aC f,26)] eH (l:=[(2,.pt (bF f hd)),(3,.pt (aT x)),(5,.pt (aC f))]) eH) (aD (an ?_)));refine ag ?_;refine ab (lW ?_);refine ws ?_;refine ag ?_;refine ab (au rfl (fun h1=>?_) fun h1=>?_)
 .have h1:x.kind=1:=by simpa using h1
  have dM:PCall prog 219 [.agg (aT x),S ⟨#[116]⟩] (B (dc x [116])):=dM oC;refine ws ?_;refine SS ?_;refine cl dM ?_;refine aF ?_;refine gc fJ ?_;refine ag ?_;refine ab (aU (bu (aQ (ax (d:=.s (.bool _)) rfl ?_))));have e:fy f x=(dc x [116]&&bN f x.to):=by rw[fy,if_pos h1]
  rw[e];simp only[fH,wF,Bool.and_assoc,aM,ib]
 have h1:¬ x.kind=1:=by simpa using h1
 refine ws ?_;refine ag ?_;refine ab (au rfl (fun h2=>?_) fun h2=>?_)
 .have h2:x.kind=2:=by simpa using h2
  have dM:PCall prog 219 [.agg (aT x),S ⟨#[97,116,101]⟩] (B (dc x [97,116,101])):=dM oC;refine ws ?_;refine SS ?_;refine cl dM ?_;refine aF ?_;refine gc bB ?_;refine aV ?_;refine gc fJ ?_;refine aV ?_;refine gc fJ ?_;refine ag ?_;refine ab (aU (bu (aQ (ax (d:=.s (.bool _)) rfl ?_))));have e:fy f x=(dc x [97,116,101]&&(bg f x.a 119&&(bN f x.to&&bN f x.eL))):=by rw[fy,if_neg h1,if_pos h2]
  rw[e];simp only[fH,wF,Bool.and_assoc,aM,ib]
 have h2:¬ x.kind=2:=by simpa using h2
 refine ws ?_;refine ag ?_;refine ab (au rfl (fun h3=>?_) fun h3=>?_)
 .have h3:x.kind=3:=by simpa using h3
  have dM:PCall prog 219 [.agg (aT x),S ⟨#[97]⟩] (B (dc x [97])):=dM oC;have hv:fy f x=if f.iter=true\/f.result=0 then dc x [97]&&aM x.a (-1) else dc x [97]&&(bg f x.a 118&&aM (bU f.aj x.a) f.result):=by rw[fy,if_neg h1,if_neg h2,if_pos h3]
  rw[hv];clear hv;refine aD (an ?_);refine cK ?_;refine ab (bC rfl (fun h=>?_) fun h=>cx ?_)
  .have nv:f.iter=true\/f.result=0:=by revert h;cases f.iter<;>simp
   rw[if_pos nv];refine aD (an ?_);refine SS ?_;refine cl dM ?_;refine bD ?_;refine ab (dx (bu (aQ (ax (d:=.s (.bool _)) rfl ?_))));simp only[fH,aM,ib]
  .have nv:¬ (f.iter=true\/f.result=0):=by revert h;cases f.iter<;>simp
   rw[if_neg nv];clear nv h;obtain⟨xk,xa,xb,xt,xe,xn,xi,xs,xw,xo⟩:=x;dsimp only at*
   refine dd Xc ?_;generalize dc _ [97]=bv at dM;cases bv with
   |false=>
    refine SS ?_;refine cl dM ?_;refine SS ?_;(iterate 4 refine z fun _ _=>?_);refine ag ?_;(iterate 9 refine z fun _ _=>?_);refine ag ?_;exact bj (by simp[apartT]) (aU (bu (aQ (ax rfl rfl))))
   |true=>
    have U:= @bB xa 118;cases hv:bg f xa 118 with
    |false=>
     rw[hv] at U;have bB:=U;refine SS ?_;refine cl dM ?_;refine aF ?_;refine gc bB ?_;refine ag ?_;(iterate 9 refine z fun _ _=>?_);refine ag ?_;exact bj (by simp[apartT]) (aU (bu (aQ (ax rfl rfl))))
    |true=>
     rw[hv] at U;have bB:=U;obtain⟨i,hi,rfl⟩:=j5 (mS hv);have hx:f.aj[i]? =some f.aj[i]:=List.getElem?_eq_getElem hi;have CC:=rI hx;rw[CC];generalize f.aj[i]=y at hx;refine SS ?_;refine cl dM ?_;refine aF ?_;refine gc bB ?_;refine aL ?_;refine aF ?_;refine bj (by simp[apartT]) (aU (bu (aQ (ax (d:=.s (.bool _)) rfl ?_))));rfl
 have h3:¬ x.kind=3:=by simpa using h3
 refine ws ?_;refine ag ?_;refine ab (au rfl (fun h4=>?_) fun h4=>?_)
 .have h4:x.kind=4:=by simpa using h4
  have dM:PCall prog 219 [.agg (aT x),S ⟨#[110]⟩] (B (dc x [110])):=dM oC;refine ws ?_;refine SS ?_;refine cl dM ?_;refine aw ?_;refine gc mC ?_;refine ag ?_;refine ab (aU (bu (aQ (ax (d:=.s (.bool _)) rfl ?_))));have e:fy f x=(dc x [110]&&isName x.name):=by rw[fy,if_neg h1,if_neg h2,if_neg h3,if_pos h4]
  rw[e];simp only[fH,wF,Bool.and_assoc,aM,ib]
 have h4:¬ x.kind=4:=by simpa using h4
 refine ws ?_;refine ag ?_;refine ab (au rfl (fun h5=>?_) fun h5=>?_)
 .have h5:x.kind=5:=by simpa using h5
  have dM:PCall prog 219 [.agg (aT x),S ⟨#[116,105,104]⟩] (B (dc x [116,105,104])):=dM oC;refine ws ?_;refine SS ?_;refine cl dM ?_;refine aF ?_;refine gc Jh ?_;refine aV ?_;refine gc fJ ?_;refine aF ?_;refine gc BW ?_;refine ag ?_;refine ab (aU (bu (aQ (ax (d:=.s (.bool _)) rfl ?_))));have e:fy f x=(dc x [116,105,104]&&(jV f x.ins&&(bN f x.to&&lp f x))):=by rw[fy,if_neg h1,if_neg h2,if_neg h3,if_neg h4,if_pos h5]
  rw[e];simp only[fH,wF,Bool.and_assoc,aM,ib]
 have h5:¬ x.kind=5:=by simpa using h5
 refine ws ?_;refine ag ?_;refine ab (au rfl (fun C=>?_) fun C=>?_)
 .have C:x.kind=6:=by simpa using C
  have dM:PCall prog 219 [.agg (aT x),S ⟨#[97,116,110,108,104]⟩] (B (dc x [97,116,110,108,104])):=dM oC;refine ws ?_;refine SS ?_;refine cl dM ?_;refine aw ?_;refine gc w9 ?_;refine aL ?_;refine ag ?_;refine gc sx ?_;refine aL ?_;refine gc bB ?_;refine bD ?_;refine gc fJ ?_;refine aF ?_;refine gc BW ?_;refine ag ?_;refine ab (aU (bu (aQ (ax (d:=.s (.bool _)) rfl ?_))));have e:fy f x=(dc x [97,116,110,108,104]&&(ke x.name&&(decide ((x.args.length:Int)<=6)&&(fm f.aj x.args&&((aM x.a (-1)||bg f x.a 118)&&(bN f x.to&&lp f x)))))):=by rw[fy,if_neg h1,if_neg h2,if_neg h3,if_neg h4,if_neg h5,if_pos C]
  rw[e];simp only[fH,wF,Bool.and_assoc,aM,ib]
 have C:¬ x.kind=6:=by simpa using C
 refine ws ?_;refine ag ?_;refine ab (au rfl (fun J=>?_) fun J=>?_)
 .have J:x.kind=7:=by simpa using J
  have dM:PCall prog 219 [.agg (aT x),S ⟨#[97,116,110,108]⟩] (B (dc x [97,116,110,108])):=dM oC;refine ws ?_;refine SS ?_;refine cl dM ?_;refine aw ?_;refine gc w9 ?_;refine aL ?_;refine ag ?_;refine gc sx ?_;refine aV ?_;refine gc bB ?_;refine aV ?_;refine gc fJ ?_;refine ag ?_;refine ab (aU (bu (aQ (ax (d:=.s (.bool _)) rfl ?_))));have e:fy f x=(dc x [97,116,110,108]&&(ke x.name&&(decide ((x.args.length:Int)<=6)&&(fm f.aj x.args&&(bg f x.a 105&&bN f x.to))))):=by rw[fy,if_neg h1,if_neg h2,if_neg h3,if_neg h4,if_neg h5,if_neg C,if_pos J]
  rw[e];simp only[fH,wF,Bool.and_assoc,aM,ib]
 have J:¬ x.kind=7:=by simpa using J
 refine ws ?_;refine ag ?_;refine ab (au rfl (fun X=>?_) fun X=>?_)
 .have X:x.kind=8:=by simpa using X
  have dM:PCall prog 219 [.agg (aT x),S ⟨#[97,98,116,101,104]⟩] (B (dc x [97,98,116,101,104])):=dM oC;refine ws ?_;refine SS ?_;refine cl dM ?_;refine aF ?_;refine gc bB ?_;refine aV ?_;refine gc bB ?_;refine aV ?_;refine gc fJ ?_;refine aV ?_;refine gc fJ ?_;refine aF ?_;refine gc BW ?_;refine ag ?_;refine ab (aU (bu (aQ (ax (d:=.s (.bool _)) rfl ?_))));have e:fy f x=(dc x [97,98,116,101,104]&&(bg f x.a 105&&(bg f x.b 118&&(bN f x.to&&(bN f x.eL&&lp f x))))):=by rw[fy,if_neg h1,if_neg h2,if_neg h3,if_neg h4,if_neg h5,if_neg C,if_neg J,if_pos X]
  rw[e];simp only[fH,wF,Bool.and_assoc,aM,ib]
 have X:¬ x.kind=8:=by simpa using X
 refine ws ?_;refine ag ?_;refine ab (au rfl (fun h9=>?_) fun h9=>?_)
 .have h9:x.kind=9:=by simpa using h9
  have dM:PCall prog 219 [.agg (aT x),S ⟨#[97,116]⟩] (B (dc x [97,116])):=dM oC;have hv:fy f x=(dc x [97,116]&&(f.iter&&(bg f x.a 118&&(aM (bU f.aj x.a) f.result&&bN f x.to)))):=by rw[fy,if_neg h1,if_neg h2,if_neg h3,if_neg h4,if_neg h5,if_neg C,if_neg J,if_neg X,if_pos h9]
  rw[hv];clear hv;obtain⟨xk,xa,xb,xt,xe,xn,xi,xs,xw,xo⟩:=x;dsimp only at*
  refine dd Xd ?_;generalize dc _ [97,116]=bv at dM;have U:= @bB xa 118;have kb:= @fJ xt;generalize bN f xt=bb at kb;have fJ:=kb;cases bv with
  |false=>
   refine SS ?_;refine cl dM ?_;refine SS ?_;(iterate 2 refine z fun _ _=>?_);refine ag ?_;(iterate 4 refine z fun _ _=>?_);refine ag ?_;(iterate 9 refine z fun _ _=>?_);refine ag ?_;(iterate 4 refine z fun _ _=>?_);refine ag ?_;exact bj (by simp[apartT]) (aU (bu (aQ (ax rfl rfl))))
  |true=>
   obtain⟨fnm,fi,fa,fr,fg,fs,fz,fb⟩:=f;dsimp only at*
   cases fi with
   |false=>
    refine SS ?_;refine cl dM ?_;refine aV ?_;(iterate 4 refine z fun _ _=>?_);refine ag ?_;(iterate 9 refine z fun _ _=>?_);refine ag ?_;(iterate 4 refine z fun _ _=>?_);refine ag ?_;exact bj (by simp[apartT]) (aU (bu (aQ (ax rfl rfl))))
   |true=>
    cases hv:bg ⟨fnm,true,fa,fr,fg,fs,fz,fb⟩ xa 118 with
    |false=>
     rw[hv] at U;have bB:=U;refine SS ?_;refine cl dM ?_;refine bA ?_;refine gc bB ?_;refine ag ?_;(iterate 9 refine z fun _ _=>?_);refine ag ?_;(iterate 4 refine z fun _ _=>?_);refine ag ?_;exact bj (by simp[apartT]) (aU (bu (aQ (ax rfl rfl))))
    |true=>
     rw[hv] at U;have bB:=U;obtain⟨i,hi,rfl⟩:=j5 (mS hv);have hx:fg[i]? =some fg[i]:=List.getElem?_eq_getElem hi;have CC:=rI hx;rw[CC];generalize fg[i]=y at hx;cases vN:decide (y=fr) with
     |false=>
      have dI:(y==fr)=false:=by simpa using vN
      refine SS ?_;refine cl dM ?_;refine bA ?_;refine gc bB ?_;refine aL ?_;refine aF ?_;(iterate 4 refine z fun _ _=>?_);refine ag ?_;refine bj (by simp[apartT]) (aU (bu (aQ (ax (d:=.s (.bool _)) rfl ?_))));simp[aM,vN]
     |true=>
      have dI:(y==fr)=true:=by simpa using vN
      refine SS ?_;refine cl dM ?_;refine bA ?_;refine gc bB ?_;refine aL ?_;refine cK ?_;refine gc fJ ?_;refine ag ?_;refine bj (by simp[apartT]) (aU (bu (aQ (ax (d:=.s (.bool _)) rfl ?_))));simp[aM,vN]
 have h9:¬ x.kind=9:=by simpa using h9
 refine lx (an ?_);refine SS ?_;refine ab (ax (d:=.s (.bool _)) rfl ?_);rw[fy,if_neg h1,if_neg h2,if_neg h3,if_neg h4,if_neg h5,if_neg C,if_neg J,if_neg X,if_neg h9]
end
theorem jy{f:aA}{b:Nat}{x:Argus.bt}(hx:f.blocks[b]? =some x)(hw:x.fin.aE.length<=100):PCall prog 76 [.agg (aC f),I b] (az (nX x.fin)):=by
 have lI:=lI (x:=x.fin) oG;have U:=vZ x.fin;refine aX mixed Uh (by rw[aku];rfl) (.cons (.agg (gz f)) (.cons (.s _) .nil)) (cI _) ?_;rw[akv,akw];refine av ?_;refine ag ?_;refine ab (aJ (bp [(0,aC f,26)] eH (l:=[(1,I b),(2,.pt (aC f))]) eH) (av ?_));refine SS ?_;refine ab ⟨_,(Ghost.nilrow _ _ _ 5 3 rfl).trans (bp [(1,[],3)] ⟨up_same _ _ _,trivial⟩ (l:=[(1,I b),(2,.pt (aC f)),(5,az [])]) ⟨rfl,rfl,jO (sz:=1) c3 rfl,trivial⟩),an ?_⟩;unfold nX;generalize cE x.fin=l at lI U;refine bD ?_;refine cl lI ?_;refine SS ?_;refine ab (aD (av ?_));refine SS ?_
 refine ab (bG (fun s=>Ghost prog s ⟨ay [(5,az (qH l))],fun _=>none,2⟩) (cq (α:=Nat) (fun k=>⟨ay [(5,az (qH (l.take k))),(6,az l),(7,I k)],fun _=>none,2⟩)
  (fun k=>k<=l.length) (fun k=>l.length - k) 0 (ap eH) oG ?_) ?_)
 .intro k hk;have J:=(Al (l:=l.take k) (z:=[]) .nil).2.2;have C:∀ t,l[k]? =some t->qH (l.take (k+1))=iP (qH (l.take k)) t:=fun t ht=>kE ht;have X:k=l.length->qH (l.take k)=qH l:=fun e=>by rw[e,List.take_length]
  change (qH (l.take k)).length<=_ at J
  rw[List.length_take,List.length_nil] at J;generalize qH (l.take k)=c at J C X;refine aF ?_;refine ab ⟨_,rfl,fun h=>?_,fun h=>?_⟩
  .have ao:k<l.length:=by simpa using h
   have hy:l[k]? =some l[k]:=List.getElem?_eq_getElem ao;have C:=C _ hy;generalize l[k]=t at hy C;have Ki:=Ki (l:=c) (n:=t) oG;refine dJ ?_;refine aV ?_;refine cl Ki ?_;refine SS ?_;refine ab ?_;refine aw ?_;refine ab (aH (k+1) (ap ⟨?_,rfl,rfl,trivial⟩) oG oG);rw[C];rfl
  .have aY:¬ k<l.length:=by simpa using h
   rw[<- X oG];exact ap eH
 .intro s hg;refine⟨_,hg,an ?_⟩;refine ag ?_;exact ab (ax rfl rfl)
set_option maxHeartbeats 1000000 in
theorem p8{f:aA}{n:Nat}(hn:f.blocks.length=n)(lO:n<=100000)(hw:∀ b∈f.blocks,b.fin.aE.length<=9)(ht:∀ b∈f.blocks,∀ t∈nX b.fin,0<=t/\t<n):
 PCall prog 56 [.agg (aC f)] (bd (jI f.blocks)):=by
 have aR:∀ a∈[D.agg (aC f)],Tr a:=.cons (.agg (gz f)) .nil;refine aX mixed Ui (by rw[akx];rfl) aR (nI _) ?_;rw[aky,akz];refine av ?_;refine ag ?_;refine ab (aJ (bp [(0,aC f,26)] eH (l:=[(1,.pt (aC f))]) eH) (av ?_));refine aV ?_;have cY:((f.blocks.length:Nat):Int).toNat=n:=hn;refine ab (aJ (aK (l:=[(1,.pt (aC f)),(3,.rs 1 0 n)]) (ml:=[(1,.cells (List.replicate n .z) 27)]) ⟨rfl,congrArg (fun k=>D.rs 1 0 k) cY,trivial⟩ ⟨?_,trivial⟩) (aD (av ?_)))
 .exact congrArg (fun c=>some (Row.cells c 27)) ((congrArg (fun k=>replD k [D.z]) cY).trans (DG n))
 refine SS ?_
 refine ab (bG (fun s=>∃ m nx ρ,Ghost prog s ⟨ay [(3,.rs 1 0 n)],m,nx⟩/\fF m nx 1 n 27 3 ρ (fun i=>(kf f.blocks n i).map I)) (cq (α:=Nat×Mem×Nat)
  (fun k=>⟨ay [(1,.pt (aC f)),(3,.rs 1 0 n),(4,I k.1)],k.2.1,k.2.2⟩)
  (fun k=>k.1<=n/\(∃ ρ,fF k.2.1 k.2.2 1 n 27 3 ρ (fun i=>(kf f.blocks k.1 i).map I))/\∀ i,(kf f.blocks k.1 i).length<=12*k.1) (fun k=>n - k.1) (0,a9 [(1,.cells (List.replicate n .z) 27)],2)
  (ap eH) ⟨Nat.zero_le _,⟨fun _=>0,GI (show 1<2 by decide) rfl⟩,fun _=>Nat.le_refl _⟩ ?_) ?_)
 .rintro⟨k,m,nx⟩ ⟨hk,⟨ρ,C⟩,hlen⟩;dsimp only at hk C hlen ⊢;have aq:=C.row;have bZ:=C.jx;refine aV ?_;refine ab ⟨_,rfl,fun h=>?_,fun h=>?_⟩
  .have ao:k<n:=by simpa[hn] using h
   have hx:f.blocks[k]? =some f.blocks[k]:=List.getElem?_eq_getElem oG;have bI:f.blocks[k]∈f.blocks:=List.getElem_mem _;have jy:=jy hx (by have:=hw _ bI;omega);generalize f.blocks[k]=x at hx bI jy
   have bL:kf f.blocks (k+1)=(nX x.fin).foldl (cS k) (kf f.blocks k):=by
    rw[kf,List.range_succ,List.foldl_append];show AD f.blocks _ k=_;rw[AD,hx];rfl
   generalize kf f.blocks k=L0 at C hlen aq bL;have cZ:=ht x bI;have eT:=Yg x.fin;have zO:=hw x bI;generalize nX x.fin=l at jy cZ eT bL;refine ws ?_;refine ag ?_;refine cl jy ?_;refine SS ?_;refine ab (av ?_);refine SS ?_
   refine ab (cq (α:=Nat×Mem×Nat)
    (fun j=>⟨ay [(1,.pt (aC f)),(3,.rs 1 0 n),(4,I k),(5,az l),(6,I j.1)],j.2.1,j.2.2⟩)
    (fun j=>j.1<=l.length/\(∃ ρ,fF j.2.1 j.2.2 1 n 27 3 ρ (fun i=>((l.take j.1).foldl (cS k) L0 i).map I))/\∀ i,((l.take j.1).foldl (cS k) L0 i).length<=12*k+j.1) (fun j=>l.length - j.1) (0,m,nx)
    (ap eH) ⟨Nat.zero_le _,⟨ρ,C⟩,hlen⟩ ?_)
   clear C aq hlen;rintro⟨j,m,nx⟩ ⟨hj,⟨ρ,C⟩,hlen⟩;dsimp only at hj C hlen ⊢;have aq:=C.row;have bZ:=C.jx;have X:∀ t,l[j]? =some t->(l.take (j+1)).foldl (cS k) L0=cS k ((l.take j).foldl (cS k) L0) t:=fun t ht=>kE ht;have m9:j=l.length->(l.take j).foldl (cS k) L0=kf f.blocks (k+1):=fun e=>by rw[bL,List.take_of_length_le oG]
   generalize (l.take j).foldl (cS k) L0=L at C hlen aq X m9;refine aF ?_;refine ab ⟨_,rfl,fun h=>?_,fun h=>?_⟩
   .have u7:j<l.length:=by simpa using h
    have tS:l[j]? =some l[j]:=List.getElem?_eq_getElem u7;have mM:=cZ _ (List.getElem_mem u7);generalize l[j]=t at tS mM;obtain⟨i,rfl⟩:=Int.eq_ofNat_of_zero_le mM.1;have J:i<n:=by omega
    have hL:=hlen i;have X:(l.take (j+1)).foldl (cS k) L0=up L i (L i++[(k:Int)]):=X _ tS
    have qE:∀ i,((l.take (j+1)).foldl (cS k) L0 i).length<=12*k+(j+1):=fun a=>by
     rw[X];exact CW (t:=(i:Int)) hlen a
    have vF:(fun a=>((l.take (j+1)).foldl (cS k) L0 a).map I)=up (fun a=>(L a).map I) i ((L i++[(k:Int)]).map I):=by rw[X];exact HD
    obtain⟨cs,kd⟩:=GH (ρ:=ρ) (L:=fun i=>(L i).map I) J;refine iZ Zy ?_;by_cases hz:L i=[]
    .have rk:jc (ρ i) ((L i).map I)=.z:=by rw[hz];rfl
     rw[rk] at kd;refine aL ?_;refine bA ?_;refine bj (by simp[apartT]) ?_;refine aw ?_;refine ab (aH (j+1,up (up (up m nx (some (.cells [I k] 3))) (nx+1) (some (.cells [I k] 3))) 1 (some (.cells ((mB ρ (fun i=>(L i).map I) n).set i (.rs (nx+1) 0 1)) 27)),nx+2) (ap eH) ⟨by dsimp only;omega,⟨up ρ i (nx+1),?_⟩,qE⟩ oM);dsimp only;rw[vF];refine C.zP J oS oG oG ?_ ?_ (fun q hq oQ _=>?_)
     .rw[hz];exact up_same _ _ _
     .rw[hz];exact af oG (up_same _ _ _)
     .exact af oG (af oG (af oG rfl))
    .have U:(L i).map I≠[]:=by simpa using hz
     have rk:jc (ρ i) ((L i).map I)=.rs (ρ i) 0 (L i).length:=by rw[pE U,List.length_map]
     rw[rk] at kd;have bX:=C.jr i J U;have zU:=C.lt i J U;have Vb:=C.ne i J U;refine aL ?_;refine bA ?_;refine bj (by simp[apartT]) ?_;refine aw ?_;refine ab (aH (j+1,up (up (up (up m nx (some (.cells [I k] 3))) (ρ i) none) (nx+1) (some (.cells ((L i).map I++[I k]) 3))) 1 (some (.cells ((mB ρ (fun i=>(L i).map I) n).set i (.rs (nx+1) 0 ((L i).length+1))) 27)),nx+2) (ap eH) ⟨by dsimp only;omega,⟨up ρ i (nx+1),?_⟩,qE⟩ oM);dsimp only;rw[vF];refine C.zP J oS oG oG ?_ ?_ (fun q hq oQ mJ=>?_)
     .rw[List.length_map,List.length_append];exact up_same _ _ _
     .rw[List.map_append];exact af oG (up_same _ _ _)
     .have:=mJ U;exact af oG (af oG (af oG (af oG rfl)))
   .have aY:¬ j<l.length:=by simpa using h
    have vl:=m9 oG;subst vl;show AOps _ _ _ _ _ _ _ _ _;refine aw ?_;refine ab (aH (k+1,m,nx) (ap eH) ⟨by dsimp only;omega,⟨ρ,C⟩,fun i=>by have:=hlen i;dsimp only at this ⊢;omega⟩ oM)
  .have aY:¬ k<n:=by simpa[hn] using h
   have:k=n:=by omega
   subst this;exact⟨m,nx,ρ,ap eH,C⟩
 .rintro s ⟨m,nx,ρ,hg,C⟩;have rh:¬ ∃ i,i<n/\(kf f.blocks n i).map I≠[]/\ρ i=1:=fun⟨i,h1,h2,h3⟩=>C.ne i h1 h2 h3;refine⟨_,hg.trans (Gc (l:=[(3,.rs 1 0 n)]) (ml:=[]) (fun r=>∃ i,i<n/\(kf f.blocks n i).map I≠[]/\ρ i=r) C (fun _=>.map) c3 (fun i h1 h2=>⟨i,h1,h2,rfl⟩) rh ⟨rfl,trivial⟩ (fun x hx=>?_) trivial (fun x hx=>by cases hx)),av ?_⟩
  .simp at hx;subst hx;exact .rs rh
  refine ag ?_;refine ab (aJ (bp [(1,_,27)] eH (l:=[(2,bd (jI f.blocks))]) ⟨?_,trivial⟩) (ax rfl rfl));show sub (fz0 1 _ (prog.cellsOf 27)) (D.rs 1 0 n)=_;rw[gv (by rw[sK];simp),GJ,jI,hn]
set_option maxHeartbeats 2000000 in
theorem zs{f:aA}(hs:wJ f)(hw:∀ b∈f.blocks,b.fin.aE.length<=9):PCall prog 120 [.agg (aC f)] (B (sY f)):=by
 have zr:=zr hs;refine aX mixed SL (by rw[agD];rfl) (.cons (.agg (gz f)) .nil) (Tr.s _) ?_;rw[agE,agF];refine av ?_;refine ag ?_;refine ab (aJ (bp [(0,aC f,26)] eH (l:=[(1,.pt (aC f))]) eH) (an ?_));cases hh:pF f with
 |false=>
  rw[hh] at zr;refine SS ?_;refine cl zr ?_;refine SS ?_;refine ab (aD (an ?_));refine ag ?_;refine ab (bC rfl (fun _=>?_) fun h=>oH);refine aD (an ?_);refine SS ?_;refine ab (dx (ax (d:=B false) rfl ?_));rw[sY,hh];rfl
 |true=>
  rw[hh] at zr;have hF:sY f=(DJ f&&(List.range f.blocks.length).all (pP f)):=by rw[sY,hh];rfl
  rw[hF];clear hF;unfold pF at hh;simp only[Bool.and_eq_true] at hh;obtain⟨h1,h2,_⟩:=hh;unfold lZ at h1;simp only[Bool.and_eq_true,Bool.not_eq_true',decide_eq_false_iff_not,jF] at h1;have hN:f.blocks.length<=1200:=by omega
  have hR:f.aj.length<=1200:=by omega
  have fM:f.aP.length<=60:=by omega
  have vO:∀ k∈f.aP,k=1\/k=2:=fun k hk=>by
   unfold pk at h2;simp only[Bool.and_eq_true] at h2;have h3:=h2.2.2.1;simp only[dO,Bool.not_eq_true',List.any_eq_false] at h3;have:=h3 k hk;simp[lm] at this;omega
  clear h1 h2;refine SS ?_;refine cl zr ?_;refine SS ?_;refine ab (aD (an ?_));refine ag ?_;refine ab (bC rfl (fun h=>oH) fun _=>cx (av ?_));refine SS ?_;refine aB (Gt (cs:=bF _ _) V.h V.h V.h rfl rfl) ak ⟨V.h,V.h⟩ ?_;refine SS ?_;refine cr (fk (cs':=bF _ _) rfl rfl rfl rfl) ak (dy V.h V.h (by first|(simp;done)|exact⟨rfl,Nat.le_of_ble_eq_true rfl⟩|(simp;omega)) (by rfl)) ?_;refine ab (aJ (aK (l:=[(1,.pt (aC f)),(4,.rp 1 0)]) (ml:=[(1,.cells (bF f .z) 208)]) eH eH) (aD (av ?_)));refine SS ?_
  refine ab (bG (fun s=>Ghost prog s ⟨ay [(1,.pt (aC f)),(4,.rp 1 0)],a9 [(1,.cells (bF f .z) 208)],2⟩/\∀ (j:Nat) x,f.blocks[j]? =some x->(cE x.fin).all (bN f)=true) (cq (α:=Nat) (fun k=>⟨ay [(1,.pt (aC f)),(4,.rp 1 0),(5,I k)],a9 [(1,.cells (bF f .z) 208)],2⟩)
   (fun k=>k<=f.blocks.length/\∀ j x,j<k->f.blocks[j]? =some x->(cE x.fin).all (bN f)=true) (fun k=>f.blocks.length - k) 0 (aK eH eH) ⟨by omega,fun j y hj=>by omega⟩ ?_) ?_)
  .rintro k ⟨hk,hinv⟩;refine aV ?_;refine ab ⟨_,rfl,fun h=>?_,fun h=>?_⟩
   .have ao:k<f.blocks.length:=by simpa using h
    have hx:f.blocks[k]? =some f.blocks[k]:=List.getElem?_eq_getElem ao;have VG:=hw _ (List.getElem_mem ao);generalize f.blocks[k]=x at hx VG;have lI:=lI (x:=x.fin) oG;have hle:=vZ x.fin;have oe:(cE x.fin).all (bN f)=false->DJ f=false:=fun h=>List.all_eq_false.2 ⟨x,List.mem_of_getElem? hx,by simp[h]⟩
    have SM:(cE x.fin).all (bN f)=true->∀ j y,j<k+1->f.blocks[j]? =some y->(cE y.fin).all (bN f)=true:=fun hq j y hj hy=>by
     by_cases e:j=k
     .subst e;rw[hx] at hy;cases hy;exact hq
     .exact hinv j y oG hy
    generalize cE x.fin=l at lI hle oe SM;refine ws ?_;refine bD ?_;refine cl lI ?_;refine SS ?_;refine ab (av ?_);refine SS ?_
    refine ab (cq (α:=Nat) (fun q=>⟨ay [(1,.pt (aC f)),(4,.rp 1 0),(5,I k),(6,az l),(7,I q)],a9 [(1,.cells (bF f .z) 208)],2⟩)
     (fun q=>q<=l.length/\∀ j y,j<q->l[j]? =some y->bN f y=true) (fun q=>l.length - q) 0 (aK eH eH) ⟨by omega,fun j y hj=>by omega⟩ ?_)
    rintro q ⟨hq,mJ⟩;refine aF ?_;refine ab ⟨_,rfl,fun h=>?_,fun h=>?_⟩
    .have z2:q<l.length:=by simpa using h
     have hy:l[q]? =some l[q]:=List.getElem?_eq_getElem z2;generalize l[q]=y at hy;have fJ:PCall prog 170 [.agg (bF f .z),I y] (B (bN f y)):=fJ Eh rfl hN;refine dd Xe ?_;refine aB (cP (vs:=bF _ _) rfl rfl V.h V.h rfl) ak (cQ V.h V.h (by first|(simp;done)|omega|exact Nat.le_of_ble_eq_true rfl)) ?_;refine aF ?_;refine cl fJ ?_;refine SS ?_;refine bj (by simp[apartT]) (an ?_);refine ag ?_;refine ab (au rfl (fun hp=>?_) fun hp=>?_)
     .refine ws ?_;refine SS ?_;refine ab (aU (b7 (b7 (aQ (ax (d:=B false) rfl ?_)))));rw[oe (List.all_eq_false.2 ⟨y,List.mem_of_getElem? hy,by simpa using hp⟩)];rfl
     .refine b8 ?_;refine aw ?_;refine ab (aH (q+1) (aK eH eH) ⟨by omega,fun j z hj hz=>?_⟩ oG);by_cases e:j=q
      .subst e;rw[hy] at hz;cases hz;simpa using hp
      .exact mJ j z oG hz
    .have aY:¬ q<l.length:=by simpa using h
     show AOps _ _ _ _ _ _ _ _ _;refine aw ?_;refine ab (aH (k+1) (aK eH eH) ⟨by omega,SM (List.all_eq_true.2 fun y hy=>?_)⟩ oG);obtain⟨j,hj⟩:=List.getElem?_of_mem hy;exact mJ j y (by have:=(List.getElem?_eq_some_iff.1 hj).1;omega) hj
   .have aY:¬ k<f.blocks.length:=by simpa using h
    exact⟨aK eH eH,fun j y hy=>hinv j y (by have:=(List.getElem?_eq_some_iff.1 hy).1;omega) hy⟩
  rintro s ⟨hg,U⟩
  have hE:DJ f=true:=List.all_eq_true.2 fun x hx=>by
   obtain⟨j,hj⟩:=List.getElem?_of_mem hx;exact U j x hj
  rw[hE,Bool.true_and]
  have cZ:∀ b∈f.blocks,∀ t∈nX b.fin,0<=t/\t<f.blocks.length:=fun b hb t ht=>by
   have:=List.all_eq_true.1 (List.all_eq_true.1 hE b hb) t (LV.1 ht);rw[bN,jF] at this;omega
  have p8:=p8 (f:=f) rfl oG hw cZ;have nA:∀ k,k<f.blocks.length->(jI f.blocks)[k]? =some (kf f.blocks f.blocks.length k):=fun k hk=>by simp[jI,hk]
  have z3:(jI f.blocks).length<=100000:=by simp[jI];omega
  clear U hE cZ;refine⟨_,hg,av ?_⟩;generalize hL:jI f.blocks=L at p8 nA z3;clear hL;refine SS ?_;refine cl p8 ?_;refine SS ?_;refine cr (gy (d:=.sl _ _) (cs':=_) rfl rfl rfl rfl rfl) ak (dy V.h V.h (by first|(simp;done)|exact⟨rfl,Nat.le_of_ble_eq_true rfl⟩|(simp;omega)) rfl) ?_;refine ab (aJ (bp [(1,bF f (bd L),208)] eH (l:=[(1,.pt (aC f)),(4,.pt (bF f (bd L)))]) eH) (av ?_));refine aV ?_;have cY:((f.aj.length:Nat):Int).toNat=f.aj.length:=Int.toNat_natCast _;refine ab (aJ (aK (l:=[(1,.pt (aC f)),(4,.pt (bF f (bd L))),(9,.rs 2 0 f.aj.length)]) (ml:=[(2,.cells ((List.replicate f.aj.length false).map B) 4)]) ⟨rfl,rfl,congrArg (fun k=>D.rs 2 0 k) cY,trivial⟩ ⟨?_,trivial⟩) (aD (av ?_)))
  .exact congrArg (fun c=>some (Row.cells c 4)) ((congrArg (fun k=>replD k [B false]) cY).trans (pj _ false))
  rw[<- Yh f.aj.length f.blocks];refine SS ?_
  refine ab (bG (fun s=>∃ N,Ghost prog s ⟨ay [],fun _=>none,N⟩/\(List.range f.blocks.length).all (pP f)=true) (cq (α:=Nat×Nat) (fun q=>⟨ay [(1,.pt (aC f)),(4,.pt (bF f (bd L))),(9,.rs 2 0 f.aj.length),(10,I q.1)],a9 [(2,.cells ((kS f.aj.length f.blocks q.1).map B) 4)],q.2⟩)
   (fun q=>q.1<=f.blocks.length/\3<=q.2/\(List.range q.1).all (pP f)=true) (fun q=>f.blocks.length - q.1) (0,3) (aK eH eH) ⟨Nat.zero_le _,Nat.le_refl _,rfl⟩ ?_) ?_)
  .rintro⟨k,N⟩ ⟨hk,VH,U⟩;dsimp only at hk VH U ⊢;refine aV ?_;refine ab ⟨_,rfl,fun h=>?_,fun h=>?_⟩
   .have ao:k<f.blocks.length:=by simpa using h
    have hx:f.blocks[k]? =some f.blocks[k]:=List.getElem?_eq_getElem ao;have sF:=hs.en _ (List.getElem_mem ao)
    have C:pP f k=(!decide ((200:Int)<f.blocks[k].ins.length)&&((List.range f.blocks[k].ins.length).all (tc f k f.blocks[k].ins)&&(fy f f.blocks[k].fin&& !(f.blocks[k].fin.kind==7&&(j7 f.blocks k).any (·==f.blocks[k].fin.a))))):=by
     unfold pP;simp only[getD_some hx]
    have oe:pP f k=false->(List.range f.blocks.length).all (pP f)=false:=fun hq=>mP ao hq;have Fx:=aaA (R:=f.aj.length) hx;have tI:=fun(i:Nat)=>Zz (R:=f.aj.length) (i:=i) hx;have hA:=nA k ao;have qV:∀ {y:aW},PCall prog 171 [.agg (bF f (bd L)),.agg (a8 y),I k] (B (di f k (kf f.blocks f.blocks.length k).length y)):=fun {y}=>qV hA fM vO z3;have J:∀ j,tc f k f.blocks[k].ins j=(di f k (kf f.blocks f.blocks.length k).length (f.blocks[k].ins.getD j dh)&& !(bx (f.blocks[k].ins.getD j dh)&&(decide (0<j)&& !bx (f.blocks[k].ins.getD (j - 1) dh)))):=fun j=>rfl;generalize kf f.blocks f.blocks.length k=A at qV J hA;generalize f.blocks[k]=x at hx sF C Fx tI J;have EJ:=EJ (f:=f) (nI L) rfl sF.1 sF.2 hN;refine ws ?_;refine cK ?_;refine ab (aD (an ?_));refine aw ?_;refine ab (bC rfl (fun hp=>?_) fun hp=>cx (aD (av ?_)))
    .refine aD (an ?_);refine SS ?_;refine ab (dx (b7 (aQ (ax (d:=B false) rfl ?_))));rw[oe (by rw[C,hp];rfl)]
    rw[hp,Bool.not_false,Bool.true_and] at C;have fK:x.ins.length<=200:=by have:=of_decide_eq_false hp;omega
    refine SS ?_
    refine ab (bG (fun s=>Ghost prog s ⟨ay [(1,.pt (aC f)),(4,.pt (bF f (bd L))),(9,.rs 2 0 f.aj.length),(10,I k)],a9 [(2,.cells ((kS f.aj.length f.blocks k).map B) 4)],N⟩/\(List.range x.ins.length).all (tc f k x.ins)=true) (cq (α:=Nat) (fun j=>⟨ay [(1,.pt (aC f)),(4,.pt (bF f (bd L))),(9,.rs 2 0 f.aj.length),(10,I k),(11,dt x.ins),(12,I j)],a9 [(2,.cells ((kS f.aj.length f.blocks k).map B) 4)],N⟩)
     (fun j=>j<=x.ins.length/\(List.range j).all (tc f k x.ins)=true) (fun j=>x.ins.length - j) 0 (aK eH eH) ⟨Nat.zero_le _,rfl⟩ ?_) ?_)
    .rintro j ⟨hj,sO⟩;refine aF ?_;refine ab ⟨_,rfl,fun h=>?_,fun h=>?_⟩
     .have bZ:j<x.ins.length:=by simpa using h
      have hy:x.ins[j]? =some x.ins[j]:=List.getElem?_eq_getElem bZ;have J:=J j;rw[getD_some hy] at J;have qI:tc f k x.ins j=false->(List.range f.blocks.length).all (pP f)=false:=fun hq=>oe (by rw[C,mP bZ hq];rfl);have X:tc f k x.ins j=true->(List.range (j+1)).all (tc f k x.ins)=true:=fun hq=>j4 sO hq;generalize x.ins[j]=y at hy J;have qV:= @qV y;generalize di f k A.length y=v at qV J;rw[J] at qI X;clear J;refine dd Xf ?_;cases v with
      |false=>
       refine bD ?_;refine cl qV ?_;refine aL ?_;refine cK ?_;(iterate 5 refine z fun _ _=>?_);refine SS ?_;refine bj (by simp[apartT]) (au rfl (fun hp=>?_) fun hp=>(by cases hp));refine ws ?_;refine SS ?_;refine ab (aU (b7 (aQ (b7 (aQ (ax (d:=B false) rfl ?_))))));rw[qI rfl]
      |true=>
       rw[Bool.true_and] at qI X;by_cases dF:y.op=19
       .have oR:bx y=true:=by simp[bx,dF]
        rw[oR,Bool.true_and] at qI X;have dI:(y.op==19)=true:=by simp[dF]
        cases j with
        |zero=>
         have tq:decide ((0:Int)<((0:Nat):Int))=false:=rfl;refine bD ?_;refine cl qV ?_;refine aL ?_;refine aF ?_;(iterate 7 refine z fun _ _=>?_);refine ag ?_;refine bj (by simp[apartT]) (au rfl (fun hp=>(by cases hp)) fun hp=>b8 ?_);refine aw ?_;refine ab (aH 1 (aK eH eH) ⟨by omega,X rfl⟩ oG)
        |succ i=>
         have tq:decide ((0:Int)<((i+1:Nat):Int))=true:=decide_eq_true oG;have uY:((i+1:Nat):Int) - 1=(i:Int)/\ -9223372036854775808<=(i:Int)/\(i:Int)<=9223372036854775807:=by omega
         have hz:x.ins[i]? =some x.ins[i]:=List.getElem?_eq_getElem oG;rw[show i+1 - 1=i from rfl,getD_some hz] at qI X;generalize x.ins[i]=z at hz qI X;refine bD ?_;refine cl qV ?_;refine aL ?_;refine aL ?_;refine aF ?_;refine bj (by simp[apartT]) (au rfl (fun hp=>?_) fun hp=>?_)
         .refine ws ?_;refine SS ?_;refine ab (aU (b7 (aQ (b7 (aQ (ax (d:=B false) rfl ?_))))));rw[qI (by revert hp;simp[bx])]
         .refine b8 ?_;refine aw ?_;refine ab (aH (i+1+1) (aK eH eH) ⟨by omega,X (by revert hp;simp[bx])⟩ oG)
       .have oR:bx y=false:=by simp[bx,dF]
        rw[oR,Bool.false_and] at qI X;have dI:(y.op==19)=false:=by simp[dF]
        refine bD ?_;refine cl qV ?_;refine aL ?_;refine cK ?_;(iterate 4 refine z fun _ _=>?_);refine ag ?_;refine bj (by simp[apartT]) (au rfl (fun hp=>(by cases hp)) fun hp=>b8 ?_);refine aw ?_;refine ab (aH (j+1) (aK eH eH) ⟨by omega,X rfl⟩ oG)
     .have aY:¬ j<x.ins.length:=by simpa using h
      have:j=x.ins.length:=by omega
      subst this;exact⟨aK eH eH,sO⟩
    rintro s ⟨hg,J⟩;rw[J,Bool.true_and] at C;refine⟨_,hg,av ?_⟩;clear hg qV J hA;obtain⟨aoW,xk,xa,xb,xt,xe,xn,Kr,xs,xw,xo⟩:=x;dsimp only at*
    refine cK ?_;refine cr (fk (cs':=aT _) rfl rfl (up_same _ _ _) rfl) ak (dy V.h V.h (by first|(simp;done)|exact⟨rfl,Nat.le_of_ble_eq_true rfl⟩|(simp;omega)) (by rfl)) ?_;refine ab (aJ (kF (i:=N) (l:=[(1,.pt (aC f)),(4,.pt (bF f (bd L))),(9,.rs 2 0 f.aj.length),(10,I k),(13,.pt (aT ⟨xk,xa,xb,xt,xe,xn,Kr,xs,xw,xo⟩))]) (ml:=[(2,.cells ((kS f.aj.length f.blocks k).map B) 4)]) (up_same _ _ _) ⟨rfl,rfl,yx oG,rfl,lC,trivial⟩ ⟨DF oG (af oG (af oG rfl)) .map,trivial⟩) (an ?_));have bl:= @Hl f ⟨xk,xa,xb,xt,xe,xn,Kr,xs,xw,xo⟩;generalize fy f ⟨xk,xa,xb,xt,xe,xn,Kr,xs,xw,xo⟩=v at EJ C bl;refine ag ?_;refine cl EJ ?_;refine SS ?_;refine ab (aD (an ?_));refine ag ?_;refine ab (bC rfl (fun hp=>?_) fun hp=>cx (an ?_))
    .refine aD (an ?_);refine SS ?_;refine ab (dx (b7 (aQ (ax (d:=B false) rfl ?_))));rw[oe (by rw[C];revert hp;cases v<;>simp)]
    have hv:v=true:=by simpa using hp
    subst hv;rw[Bool.true_and] at C;refine aw ?_;refine ab (au rfl (fun h7=>?_) fun h7=>b8 ?_)
    .have e7:xk=7:=by simpa using h7
     obtain⟨i,hi,e⟩:=(bl rfl).2.2 e7;dsimp only at e;subst e;have tI:=tI i e7 rfl;have ku:(kS f.aj.length f.blocks k)[i]? =some ((j7 f.blocks k).any (·==(i:Int))):=Dt hi;have ns:=Am f.aj.length f.blocks k;rw[e7] at C;generalize (j7 f.blocks k).any (·==(i:Int))=o at ku C;generalize kS f.aj.length f.blocks k=O at ku ns tI ⊢;have kd:=eV (f:=B) ku;refine aD (an ?_);refine aV ?_;refine ab (bC rfl (fun hp=>?_) fun hp=>cx ?_)
     .refine aD (an ?_);refine SS ?_;refine ab (dx (b7 (aQ (ax (d:=B false) rfl ?_))));rw[oe (by rw[C,hp];rfl)]
     .refine dJ ?_;refine aV ?_;refine ab ?_;refine aw ?_;refine ab (aH (k+1,N+1) (aK eH ⟨?_,trivial⟩) ⟨by dsimp only;omega,by dsimp only;omega,j4 U (by rw[C,hp];rfl)⟩ oM);dsimp only;rw[tI,List.map_set];rfl
    .have h7:¬ xk=7:=by simpa using h7
     have Fx:=Fx h7;refine aw ?_;refine ab (aH (k+1,N+1) (aK eH ⟨?_,trivial⟩) ⟨by dsimp only;omega,by dsimp only;omega,j4 U (by rw[C];simp[h7])⟩ oM);dsimp only;rw[Fx];rfl
   .have aY:¬ k<f.blocks.length:=by simpa using h
    have:k=f.blocks.length:=by omega
    subst this;exact⟨N,eW (l:=[]) trivial,U⟩
  .rintro s ⟨N,hg,U⟩;refine⟨_,hg,an ?_⟩;refine SS ?_;refine ab (ax (d:=B true) rfl ?_);rw[U]
theorem zt{a b:Cert}(hl:a.is.length=b.is.length)(hm:a.is.length<=100000):PCall prog 173 [.agg (bV a),.agg (bV b)] (.agg (bV (nY a b))):=by
 refine aX mixed SQ (by rw[agL];rfl) (.cons (.agg (rZ a)) (.cons (.agg (rZ b)) .nil)) (.agg (rZ _)) ?_;rw[agM,agN];obtain⟨aa,C⟩:=a;obtain⟨ba,J⟩:=b;dsimp only at hl hm;refine av ?_;refine aw ?_;refine ab (aJ (aK (l:=[(2,.rp 0 0),(3,.rp 1 0),(4,.rp 2 0)]) (ml:=[(0,.cells (bV ⟨aa,C⟩) 158),(1,.cells (bV ⟨ba,J⟩) 158),(2,.cells [B false,.z] 158)]) eH eH) (aD (an ?_)));refine ag ?_;cases aa with
 |true=>
  refine ab (bC rfl (fun _=>?_) fun h=>oH);refine aD (an ?_);refine ag ?_;exact ab (dx (iz (iV rfl rfl qU kW rfl t158 (Nat.le_of_ble_eq_true rfl)) rfl))
 |false=>
 refine ab (bC rfl (fun h=>oH) fun _=>cx (aD (an ?_)));refine ag ?_;cases ba with
 |true=>
  refine ab (bC rfl (fun _=>?_) fun h=>oH);refine aD (an ?_);refine ag ?_;exact ab (dx (iz (iV rfl rfl qU kW rfl t158 (Nat.le_of_ble_eq_true rfl)) rfl))
 |false=>
 refine ab (bC rfl (fun h=>oH) fun _=>cx (av ?_));have hb:nY ⟨false,C⟩ ⟨false,J⟩=⟨false,List.zipWith (fun x y=>x&&y) C J⟩:=rfl;rw[hb];clear hb;have jv:({ any:=false,is:=C }:Cert).is.length<=100000:=hm;have cY:((C.length:Nat):Int).toNat=C.length:=Int.toNat_natCast _;have X:(List.zipWith (fun x y=>x&&y) C J).length=C.length:=by simp;omega
 have VJ:∀ (k:Nat) x y,C[k]? =some x->J[k]? =some y->(List.zipWith (fun x y=>x&&y) C J)[k]? =some (x&&y):=fun k x y h1 h2=>by rw[List.getElem?_zipWith,h1,h2]
 generalize List.zipWith (fun x y=>x&&y) C J=zQ at X VJ;refine cK ?_;refine ab (aJ (aK (l:=[(2,.rp 0 0),(3,.rp 1 0),(4,.rp 2 0),(5,.rp 4 0)]) (ml:=[(0,.cells (bV ⟨false,C⟩) 158),(1,.cells (bV ⟨false,J⟩) 158),(2,.cells [B false,.z] 158),(3,.cells ((List.replicate C.length false).map B) 4),(4,.cells [B false,.rs 3 0 C.length] 158)]) eH ⟨rfl,rfl,rfl,?_,?_,trivial⟩) (aD (av ?_)))
 .exact congrArg (fun c=>some (Row.cells c 4)) ((congrArg (fun k=>replD k [B false]) cY).trans (pj _ false))
 .exact congrArg (fun k=>some (Row.cells [B false,.rs 3 0 k] 158)) cY
 refine SS ?_
 refine ab (bG (fun s=>Ghost prog s ⟨ay [(4,.rp 2 0),(5,.rp 4 0)],a9 [(2,.cells [B false,.z] 158),(3,.cells (zQ.map B) 4),(4,.cells [B false,.rs 3 0 C.length] 158)],5⟩) (cq (α:=Nat) (fun k=>⟨ay [(2,.rp 0 0),(3,.rp 1 0),(4,.rp 2 0),(5,.rp 4 0),(6,I k)],a9 [(0,.cells (bV ⟨false,C⟩) 158),(1,.cells (bV ⟨false,J⟩) 158),(2,.cells [B false,.z] 158),(3,.cells ((zQ.take k++List.replicate (C.length - k) false).map B) 4),(4,.cells [B false,.rs 3 0 C.length] 158)],5⟩)
  (fun k=>k<=C.length) (fun k=>C.length - k) 0 (aK eH eH) oG ?_) ?_)
 .intro k hk;refine aV ?_;refine ab ⟨_,rfl,fun h=>?_,fun h=>?_⟩
  .have ao:k<C.length:=by simpa using h
   have hx:C[k]? =some C[k]:=List.getElem?_eq_getElem ao;have hy:J[k]? =some J[k]:=List.getElem?_eq_getElem oG;have U:=VJ k _ _ hx hy;generalize C[k]=x at hx U;generalize J[k]=y at hy U;have ss:=take_set U X;have pX:(zQ.take k++List.replicate (C.length - k) false).length=C.length:=by simp;omega
   refine iZ Yi ?_;cases x with
   |false=>
    refine aL ?_;(iterate 5 refine z fun _ _=>?_);refine aw ?_;refine bj (by simp[apartT]) ?_;refine aw ?_;refine ab (aH (k+1) (aK eH ⟨rfl,rfl,rfl,?_,rfl,trivial⟩) oG oG);rw[<- ss,List.map_set];rfl
   |true=>
    refine aL ?_;refine bA ?_;refine bj (by simp[apartT]) ?_;refine aw ?_;refine ab (aH (k+1) (aK eH ⟨rfl,rfl,rfl,?_,rfl,trivial⟩) oG oG);rw[<- ss,List.map_set];rfl
  .have aY:¬ k<C.length:=by simpa using h
   have:k=C.length:=by omega
   subst this;refine aK eH ⟨rfl,?_,rfl,trivial⟩;rw[Nat.sub_self,List.replicate_zero,List.append_nil,List.take_of_length_le oG];rfl
 .intro s hg;refine⟨_,hg,av ?_⟩;refine ag ?_
  have e:sub (fz0 3 (zQ.map B) (prog.cellsOf 4)) (.rs 3 0 C.length)=.sl (zQ.map B) C.length:=by
   rw[c4,y5,List.drop_zero,List.take_of_length_le oP]
  refine ab (aJ (bp [(3,zQ.map B,4),(2,[B false,.sl (zQ.map B) C.length],158)] ⟨rfl,?_,trivial⟩ (l:=[(4,.pt [B false,.sl (zQ.map B) C.length])]) eH) (aU (iz (Nv rfl qU kW rfl t158 (Nat.le_of_ble_eq_true rfl)) ?_)))
  .exact congrArg (fun d=>some (Row.cells [B false,d] 158)) e
  .rw[<- X];rfl
theorem tJ{f:aA}{b:Nat}{x:Argus.bt}{c:Cert}(hx:f.blocks[b]? =some x)(hl:c.is.length=f.aj.length+f.aP.length)(hm:c.is.length<=2000)(hi:∀ y∈x.ins,xf f.aj.length (f.aj.length+f.aP.length) y)(VK:x.ins.length<=100000):
 PCall prog 127 [.agg (aC f),I b,.agg (bV c)] (.agg (bV (dR f.aj.length x.ins c))):=by
 have iQ:∀ {d:Cert} {r:Int},d.is.length=f.aj.length+f.aP.length->BV (f.aj.length+f.aP.length) r->PCall prog 124 [.agg (bV d),I r] (.agg (bV (ia d r))):=fun {d r} h1 h2=>iQ oG (by rw[h1];exact h2);refine aX mixed SR (by rw[agO];rfl) (.cons (.agg (gz f)) (.cons (.s _) (.cons (.agg (rZ c)) .nil))) (.agg (rZ _)) ?_;rw[agP,agQ];refine av ?_;refine aw ?_;refine ab (aJ (aK (l:=[(1,I b),(3,.rp 0 0),(5,.rp 1 0),(6,.rp 2 0)]) (ml:=[(0,.cells (aC f) 26),(1,.cells (bV c) 158),(2,.cells [B false,.z] 158)]) eH eH) (an ?_));refine cK ?_;refine ab (aD (av ?_));refine SS ?_
 refine ab (bG (fun s=>Ghost prog s ⟨ay [(5,.rp 1 0),(6,.rp 2 0)],a9 [(1,.cells (bV (dR f.aj.length x.ins c)) 158),(2,.cells [B false,.z] 158)],3⟩) (cq (α:=Nat) (fun k=>⟨ay [(3,.rp 0 0),(5,.rp 1 0),(6,.rp 2 0),(7,dt x.ins),(8,I k)],a9 [(0,.cells (aC f) 26),(1,.cells (bV (dR f.aj.length (x.ins.take k) c)) 158),(2,.cells [B false,.z] 158)],3⟩)
  (fun k=>k<=x.ins.length) (fun k=>x.ins.length - k) 0 (aK eH eH) oG ?_) ?_)
 .intro k hk;have C:∀ y,x.ins[k]? =some y->dR f.aj.length (x.ins.take (k+1)) c=tG f.aj.length (dR f.aj.length (x.ins.take k) c) y:=fun y hy=>kE hy;have fR:k=x.ins.length->dR f.aj.length (x.ins.take k) c=dR f.aj.length x.ins c:=fun e=>by rw[e,List.take_length]
  have vP:=(Ak f.aj.length (x.ins.take k) c).trans hl;generalize dR f.aj.length (x.ins.take k) c=d at C fR vP;refine aF ?_;refine ab ⟨_,rfl,fun h=>?_,fun h=>?_⟩
  .have ao:k<x.ins.length:=by simpa using h
   have hy:x.ins[k]? =some x.ins[k]:=List.getElem?_eq_getElem ao;have C:=C _ hy;have U:=hi _ (List.getElem_mem ao);generalize x.ins[k]=y at hy C U;have lJ:=lJ (x:=y)
   have hp:BV (f.aj.length+f.aP.length) (bM y):=by
    rcases U.w with e|⟨i,h1,h2⟩
    .exact .inl e
    .exact .inr ⟨i,by omega,h2⟩
   have X:=iQ vP hp;have nD:=(Dh d (bM y)).trans vP
   have kv:y.op=18->PCall prog 124 [.agg (bV (ia d (bM y))),I ((f.aj.length:Int)+y.n)] (.agg (bV (ia (ia d (bM y)) ((f.aj.length:Int)+y.n)))):=fun e=>iQ nD (by
    obtain⟨i,h1,h2⟩:=U.s e
    exact .inr ⟨f.aj.length+i,h1,by rw[h2];omega⟩)
   unfold tG at C;generalize ia d (bM y)=d1 at X nD kv C;generalize bM y=w at lJ X;clear iQ;have iQ:=X;refine dd Yj ?_;refine aV ?_;refine cl lJ ?_;refine cl iQ ?_;refine SS ?_;refine bj (by simp[apartT]) (an ?_);refine bD ?_;refine ab (au rfl (fun J=>?_) fun J=>?_)
   .have J:y.op=18:=by simpa using J
    rw[if_pos J] at C;have iQ:=kv J;obtain⟨i,h1,h2⟩:=U.s J;have oJ:0<=y.n/\y.n<=2000:=by omega
    refine iZ Yk ?_;refine bA ?_;refine ag ?_;refine cl iQ ?_;refine SS ?_;refine bj (by simp[apartT]) ?_;refine aw ?_;refine ab (aH (k+1) (aK eH ⟨rfl,?_,rfl,trivial⟩) oG oG);rw[C];rfl
   .have J:¬ y.op=18:=by simpa using J
    rw[if_neg J] at C;refine b8 ?_;refine aw ?_;refine ab (aH (k+1) (aK eH ⟨rfl,?_,rfl,trivial⟩) oG oG);rw[C];rfl
  .have aY:¬ k<x.ins.length:=by simpa using h
   rw[<- fR oG];exact aK eH eH
 .intro s hg;refine⟨_,hg,an ?_⟩;generalize dR f.aj.length x.ins c=d;refine ag ?_;exact ab (aU (iz (iV rfl rfl qU kW rfl t158 (Nat.le_of_ble_eq_true rfl)) rfl))
theorem ve{f:aA}{b:Nat}{x:Argus.bt}{c:Cert}{to:Int}(hx:f.blocks[b]? =some x)(hw:x.fin.aE.length<=100)(hm:c.is.length<=2000)(gZ:BV c.is.length (dp x.fin)):
 PCall prog 126 [.agg (aC f),I b,I to,.agg (bV c)] (.agg (bV (lD x.fin to c))):=by
 have iQ:=iQ (c:=c) oG gZ;have lI:=lI (x:=x.fin) oG;have xd:=xd (x:=x.fin);have J:=vZ x.fin;refine aX mixed SU (by rw[agR];rfl) (.cons (.agg (gz f)) (.cons (.s _) (.cons (.s _) (.cons (.agg (rZ c)) .nil)))) (.agg (rZ _)) ?_;rw[agS,agT];refine ws ?_;refine aw ?_;refine ab (av ?_);refine bA ?_;refine ab (aJ (aK (l:=[(2,I to),(7,.rp 1 0),(8,.rp 2 0),(9,.rp 3 0)]) (ml:=[(1,.cells (bV c) 158),(2,.cells [B false,.z] 158),(3,.cells (aT x.fin) 69)]) eH eH) (an ?_));have X:lD x.fin to c=if x.fin.to≠to\/(cE x.fin).tail.any (·==to)=true\/x.fin.kind=3\/x.fin.kind=4 then c else ia c (dp x.fin):=rfl
 rw[X];clear X;generalize cE x.fin=l at lI J;refine SS ?_;refine cl lI ?_;refine SS ?_;refine er ?_;refine SS ?_;refine ab (aD (av ?_));refine SS ?_
 refine ab (bG (fun s=>Ghost prog s ⟨ay [(2,I to),(7,.rp 1 0),(8,.rp 2 0),(9,.rp 3 0),(11,B (l.tail.any (·==to)))],a9 [(1,.cells (bV c) 158),(2,.cells [B false,.z] 158),(3,.cells (aT x.fin) 69)],4⟩) (cq (α:=Nat) (fun k=>⟨ay [(2,I to),(7,.rp 1 0),(8,.rp 2 0),(9,.rp 3 0),(10,az l),(11,B ((l.tail.take k).any (·==to))),(12,I ((k+1:Nat):Int))],a9 [(1,.cells (bV c) 158),(2,.cells [B false,.z] 158),(3,.cells (aT x.fin) 69)],4⟩)
  (fun k=>k<=l.tail.length) (fun k=>l.tail.length - k) 0 (aK eH eH) oG ?_) ?_)
 .intro k hk;have htl:l.tail.length=l.length - 1:=List.length_tail ..;have C:∀ y,l.tail[k]? =some y->(l.tail.take (k+1)).any (·==to)=((l.tail.take k).any (·==to)||y==to):=fun y hy=>by rw[List.take_add_one,hy,List.any_append];simp
  have U:k=l.tail.length->(l.tail.take k).any (·==to)=l.tail.any (·==to):=fun e=>by rw[e,List.take_length]
  generalize (l.tail.take k).any (·==to)=ob at C U;refine aF ?_;refine ab ⟨_,rfl,fun h=>?_,fun h=>?_⟩
  .have ao:k+1<l.length:=by
    have:=of_decide_eq_true h;omega
   have hy:l[k+1]? =some l[k+1]:=List.getElem?_eq_getElem ao;have C:=C l[k+1] (by rw[List.getElem?_tail];exact hy);generalize l[k+1]=y at hy C;refine dJ ?_;cases ob with
   |false=>
    refine bA ?_;refine ag ?_;refine ab ?_;refine aw ?_;refine ab (aH (k+1) (aK ⟨rfl,rfl,rfl,rfl,rfl,?_,rfl,trivial⟩ eH) oG oG);rw[C];rfl
   |true=>
    refine ag ?_;(iterate 6 refine z fun _ _=>?_);refine ag ?_;refine ab ?_;refine aw ?_;refine ab (aH (k+1) (aK ⟨rfl,rfl,rfl,rfl,rfl,?_,rfl,trivial⟩ eH) oG oG);rw[C];rfl
  .have aY:¬ k+1<l.length:=fun hh=>by
    have:=of_decide_eq_false h;omega
   rw[<- U oG];exact aK eH eH
 .intro s hg;refine⟨_,hg,aD (an ?_)⟩;generalize l.tail.any (·==to)=ob;refine aL ?_;refine bA ?_;refine ab (bC rfl (fun h=>?_) fun h=>cx (dd Xi ?_))
  .refine aD (an ?_);refine ag ?_;refine ab (dx (iz (iV rfl rfl qU kW rfl t158 (Nat.le_of_ble_eq_true rfl)) ?_));rw[if_pos]
   .rfl
   .revert h;simp;grind
  .rw[if_neg (by revert h;simp;grind)];generalize ia c (dp x.fin)=d at iQ;generalize dp x.fin=w at iQ xd;refine ag ?_;refine cl xd ?_;refine cl iQ ?_;refine SS ?_;exact bj (by simp[apartT]) (aU (iz (iV rfl rfl qU kW rfl t158 (Nat.le_of_ble_eq_true rfl)) rfl))
set_option maxHeartbeats 2000000 in
theorem zu{f:aA}(hF:wO f)(hw:∀ b∈f.blocks,b.fin.aE.length<=9):PCall prog 121 [.agg (aC f)] (Bj f (gf f.blocks f.args.toNat)):=by
 have hR:=hF.ok.aj;have hS:=hF.sl;have Fy:=hF.ok.mK;have la:=hF.ok.pos;obtain⟨a,ha,q0⟩:=hF.ar;have Bv:=LX (R:=f.aj.length) (n:=f.aj.length+f.aP.length) (N:=f.blocks.length) (args:=a) hR oG oG la q0;rw[ha,Int.toNat_natCast];refine aX mixed SV (by rw[agU];rfl) (.cons (.agg (gz f)) .nil) (ZA f _) ?_;rw[agV,agW];refine av ?_;refine ag ?_;refine ab (aJ (bp [(0,aC f,26)] eH (l:=[(1,.pt (aC f))]) eH) (av ?_));refine bA ?_;refine ab (aJ (ap (l:=[(1,.pt (aC f)),(3,I ((f.aj.length+f.aP.length:Nat):Int))]) eH) (av ?_));have hnn:f.aj.length+f.aP.length<=1260:=by omega
 have Ks:f.aj.length<=f.aj.length+f.aP.length:=by omega
 unfold Bj;generalize hn:f.aj.length+f.aP.length=n at Bv hnn Ks ⊢;have cY:((f.blocks.length:Nat):Int).toNat=f.blocks.length:=Int.toNat_natCast _;refine aw ?_;refine eQ (yv rfl rfl V.h V.h) ak ⟨by omega,rfl,by omega,by rw[Uj];omega,V.h⟩ ?_;refine SS ?_;refine ab (aJ (aK (l:=[(1,.pt (aC f)),(3,I n),(4,.rs 1 0 f.blocks.length)]) (ml:=[(1,.cells (cH (gV n f.blocks.length (.rs 2 0 n) 0)) 158)]) ⟨rfl,rfl,congrArg (fun k=>D.rs 1 0 k) cY,trivial⟩ ⟨?_,trivial⟩) (aD (av ?_)))
 .exact congrArg (fun c=>some (Row.cells c 158)) ((congrArg (fun k=>replD k [B false,D.z]) cY).trans (MH _))
 refine SS ?_;have zA:((n:Nat):Int).toNat=n:=Int.toNat_natCast _
 refine ab (bG (fun s=>∃ N,Ghost prog s ⟨ay [(1,.pt (aC f)),(3,I n),(4,.rs 1 0 f.blocks.length)],a9 [(1,.cells (cH ((true,.rs 2 0 n)::nh n f.blocks.length)) 158),(2,.cells ((List.replicate n false).map B) 4)],N⟩/\3<=N) (cq (α:=Nat) (It f n f.blocks.length)
  (fun k=>k<=f.blocks.length) (fun k=>f.blocks.length - k) 0 (aK eH eH) oG ?_) ?_)
 .intro k hk;have U:=(yG (gV n f.blocks.length (.rs 2 0 n) k)).trans (congrArg (·*2) (Gk (n:=n) (d:=.rs 2 0 n) hk));cases k with
  |zero=>
   show AOps _ _ _ _ _ _ _ _ _;unfold It;refine aF ?_;refine ab ⟨_,rfl,fun h=>?_,fun h=>?_⟩
   .refine dJ ?_;have oY:=F5 (L:=gV n f.blocks.length (.rs 2 0 n) 0) (t:=0) (true,.rs 2 0 n) (by rw[Gk hk];exact la);rw[aaB la] at oY;refine bD ?_;refine cr (fk (vs:=[B true,.rs 2 0 n]) rfl rfl rfl oY) (by repeat' (first|exact trivial|exact rfl|refine And.intro ?_ ?_)) (dy t158 kW ⟨rfl,by rw[U];omega⟩ rfl) ?_;refine ab ?_;refine aw ?_;refine ab (aH 1 (aK eH ⟨rfl,?_,trivial⟩) oG oG)
    .exact congrArg (fun c=>some (Row.cells c 4)) ((congrArg (fun k=>replD k [B false]) zA).trans (pj _ false))
   .exact absurd (of_decide_eq_false h) oG
  |succ k=>
   show AOps _ _ _ _ _ _ _ _ _;unfold It;refine aF ?_;refine ab ⟨_,rfl,fun h=>?_,fun h=>?_⟩
   .have ao:k+1<f.blocks.length:=by have:=of_decide_eq_true h;omega
    refine dJ ?_;have oY:=F5 (L:=gV n f.blocks.length (.rs 2 0 n) (k+1)) (t:=k+1) (true,.rs (k+3) 0 n) (by rw[Gk hk];exact ao);refine bD ?_;refine cr (fk (vs:=[B true,.rs (k+3) 0 n]) rfl rfl (af oG rfl) oY) (by repeat' (first|exact trivial|exact rfl|refine And.intro ?_ ?_)) (dy t158 kW ⟨rfl,by rw[U];omega⟩ rfl) ?_;refine ab ?_;refine aw ?_;refine ab (aH (k+2) (kF (i:=k+3) (e:=4) (cs:=(List.replicate n false).map B) (af oG ?_) ⟨rfl,rfl,yx oG,rfl,trivial⟩ ⟨?_,DF oG (af oG (af oG rfl)) .map,trivial⟩) oG oG)
    .exact(up_same _ _ _).trans (congrArg (fun c=>some (Row.cells c 4)) ((congrArg (fun k=>replD k [B false]) zA).trans (pj _ false)))
    .rw[c4];refine(if_neg (show ¬ 1=k+3 by omega)).trans ?_;exact(congrArg (Option.map _) (up_same _ _ _)).trans (congrArg (fun c=>some (Row.cells c 158)) (aaD oG ao))
   .have aY:¬ k+1<f.blocks.length:=by have:=of_decide_eq_false h;omega
    have hkN:k+1=f.blocks.length:=by omega
    refine⟨k+3,aK eH ⟨?_,rfl,trivial⟩,by omega⟩;rw[<- aaE la, <- hkN];rfl
 rintro s ⟨N3,hg,VH⟩;have ra:=LW (n:=n) la;have xS:=WD Bv.2.1 Bv.2.2 la;have Kt:∀ cs sz,(nh n f.blocks.length).map (fun p=>(p.1,sub (fz0 2 cs sz) p.2))=nh n f.blocks.length:=fun cs sz=>akA;have U:=yG (nh n f.blocks.length);generalize nh n f.blocks.length=T at hg ra xS Kt U;refine⟨_,hg,av ?_⟩;refine aF ?_;refine ab (aJ (aK (l:=[(1,.pt (aC f)),(3,I n),(4,.rs 1 0 f.blocks.length)]) (ml:=[(1,.cells (cH ((false,.rs 2 0 n)::T)) 158),(2,.cells ((List.replicate 0 true++List.replicate (n - 0) false).map B) 4)]) eH eH) (aD (av ?_)));refine SS ?_
 refine ab (bG (fun s=>Ghost prog s ⟨ay [(1,.pt (aC f)),(3,I n),(4,.rs 1 0 f.blocks.length)],a9 [(1,.cells (cH ((false,.rs 2 0 n)::T)) 158),(2,.cells ((List.replicate a true++List.replicate (n - a) false).map B) 4)],N3⟩) (cq (α:=Nat) (fun r=>⟨ay [(1,.pt (aC f)),(3,I n),(4,.rs 1 0 f.blocks.length),(6,I r)],a9 [(1,.cells (cH ((false,.rs 2 0 n)::T)) 158),(2,.cells ((List.replicate r true++List.replicate (n - r) false).map B) 4)],N3⟩)
  (fun r=>r<=a) (fun r=>a - r) 0 (aK eH eH) oG ?_) ?_)
 .intro r hr;refine aF ?_;refine ab ⟨_,rfl,fun h=>?_,fun h=>?_⟩
  .have ao:r<a:=by have:=of_decide_eq_true h;omega
   have ss:=Hd (x:=true) (y:=false) (n:=n) (k:=r) oG;have pX:(List.replicate r true++List.replicate (n - r) false).length=n:=by simp;omega
   refine dJ ?_;refine cK ?_;refine ab ?_;refine aw ?_;refine ab (aH (r+1) (aK eH ⟨rfl,?_,trivial⟩) oG oG);rw[<- ss,List.map_set];rfl
  .have aY:¬ r<a:=by have:=of_decide_eq_false h;omega
   have:r=a:=by omega
   subst this;exact aK eH eH
 clear hg;rintro s hg;refine⟨_,hg.trans (kF (i:=2) (e:=4) (cs:=(List.replicate a true++List.replicate (n - a) false).map B) (l:=[(1,.pt (aC f)),(3,I n),(4,.rs 1 0 f.blocks.length)]) (ml:=[(1,.cells (cH (dQ f.aj.length n f.blocks.length (iY f.blocks.length a))) 158)]) rfl eH ⟨?_,trivial⟩),aD (av ?_)⟩
 .rw[c4,xS];refine congrArg (fun c=>some (Row.cells c 158)) ((DK _ (fun _=>rfl) _).trans (congrArg cH ?_));rw[List.map_cons,Kt,y5,List.drop_zero,List.take_of_length_le oP];have:(List.replicate a true++List.replicate (n - a) false).length=n:=by simp;omega
  show(false,D.sl _ n)::T=(false,D.sl _ (List.length _))::T;rw[this]
 clear hg ra xS Kt U T;refine SS ?_;have hG0:=Bv.1;clear Bv;have VL:gf f.blocks a=ll f.blocks (oO (iY f.blocks.length a)+1) (iY f.blocks.length a):=rfl;generalize gf f.blocks a=RR at VL ⊢
 refine ab (bG (fun s=>∃ N,Ghost prog s ⟨ay [(4,.rs 1 0 f.blocks.length)],a9 [(1,.cells (cH (dQ f.aj.length n f.blocks.length RR)) 158)],N⟩) (wl (α:=CS×Nat)
  (fun s=>⟨ay [(1,.pt (aC f)),(3,I n),(4,.rs 1 0 f.blocks.length),(7,B s.1.ch)],a9 [(1,.cells (cH (dQ f.aj.length n f.blocks.length s.1)) 158)],s.2⟩)
  (fun s=>n3 f.aj.length n f.blocks.length s.1/\2<=s.2/\(s.1.ch=true->∃ k,oO s.1<k/\ll f.blocks k s.1=RR)/\(s.1.ch=false->s.1=RR)) (fun s=>2*oO s.1+if s.1.ch=true then 1 else 0) (iY f.blocks.length a,N3)
  (aK eH eH) ⟨hG0,by dsimp only;omega,fun _=>⟨_,Nat.lt_succ_self _,VL.symm⟩,fun h=>by cases h⟩ ?_) ?_)
 .rintro⟨C,N0⟩ ⟨hG,Uk,vC,u4⟩;dsimp only at hG Uk vC u4 ⊢;refine SS ?_;refine ab ⟨_,rfl,fun h0=>?_,fun h=>?_⟩
  .obtain⟨ff,RH,uP⟩:=vC h0;obtain⟨ff,rfl⟩:∃ j,ff=j+1:=⟨ff - 1,by omega⟩
   have uQ:=Aa hF.ok.blk hG.ok;refine ws ?_;refine SS ?_;refine ab (av ?_);refine SS ?_
   refine ab (cq (α:=Nat×Nat)
    (fun k=>⟨ay [(1,.pt (aC f)),(3,I n),(4,.rs 1 0 f.blocks.length),(7,B ((List.range k.1).foldl (c7 f.blocks) ⟨C.ws,C.re,false⟩).ch),(8,I k.1)],a9 [(1,.cells (cH (dQ f.aj.length n f.blocks.length ((List.range k.1).foldl (c7 f.blocks) ⟨C.ws,C.re,false⟩))) 158)],k.2⟩)
    (fun k=>k.1<=f.blocks.length/\2<=k.2/\n3 f.aj.length n f.blocks.length ((List.range k.1).foldl (c7 f.blocks) ⟨C.ws,C.re,false⟩)) (fun k=>f.blocks.length - k.1) (0,N0) (aK eH eH) ⟨Nat.zero_le _,Uk,Nz hG false⟩ ?_)
   rintro⟨k,N⟩ ⟨hk,hN,xT⟩;dsimp only at hk hN xT ⊢;have bL:(List.range (k+1)).foldl (c7 f.blocks) ⟨C.ws,C.re,false⟩=c7 f.blocks ((List.range k).foldl (c7 f.blocks) ⟨C.ws,C.re,false⟩) k:=by rw[List.range_succ,List.foldl_append];rfl
   have fR:k=f.blocks.length->(List.range k).foldl (c7 f.blocks) ⟨C.ws,C.re,false⟩=iX f.blocks C:=fun e=>by rw[e,iX]
   generalize (List.range k).foldl (c7 f.blocks) ⟨C.ws,C.re,false⟩=u at xT bL fR;refine aF ?_;refine ab ⟨_,rfl,fun h=>?_,fun h=>?_⟩
   .have ao:k<f.blocks.length:=by simpa using h
    have hx:f.blocks[k]? =some f.blocks[k]:=List.getElem?_eq_getElem ao;have X:f.blocks[k]∈f.blocks:=List.getElem_mem _;generalize f.blocks[k]=x at hx X;have J:c7 f.blocks u k=if u.re.getD k false=true then(nextR x.fin).foldl (cg x.fin (g9 x (u.ws.getD k [])).1) u else u:=by rw[c7,hx]
    have z4:=yg (R:=f.aj.length) (n:=n) (s:=u) ao;obtain⟨rr,kd⟩:=abw z4;have ui:=Nx z4;have U:=(yG (dQ f.aj.length n f.blocks.length u)).trans (congrArg (·*2) (uq f.aj.length n f.blocks.length u));have CJ:bT f.aj.length n u k=if u.re.getD k false=true then⟨false,bR f.aj.length n (u.ws.getD k [])⟩ else⟨true,List.replicate n false⟩:=rfl
    have Fz:=xT.yes k ao;have Ul:=xT.ok.Um ao;refine aD (an ?_);cases j3:u.re.getD k false with
    |false=>
     rw[j3] at CJ J;rw[CJ] at kd;have J:c7 f.blocks u k=u:=J;have kd:(cH (dQ f.aj.length n f.blocks.length u)).drop (k*2+0)=B true::bW (List.replicate n false)::rr:=kd;refine aV ?_;refine ab (bC rfl (fun h=>qc (wC ?_)) fun h=>oH);refine aw ?_;refine ab (aH (k+1,N) (aK ⟨rfl,rfl,rfl,?_,rfl,trivial⟩ ⟨?_,trivial⟩) ⟨by dsimp only;omega,hN,?_⟩ oM)
     .dsimp only;rw[bL,J];rfl
     .dsimp only;rw[bL,J];rfl
     .dsimp only;rw[bL,J];exact xT
    |true=>
    rw[j3] at CJ J;rw[CJ] at kd ui;have J:c7 f.blocks u k=(nextR x.fin).foldl (cg x.fin (g9 x (u.ws.getD k [])).1) u:=J;have Fz:=Fz j3;generalize u.ws.getD k []=w at CJ J kd ui Fz Ul;have kd:(cH (dQ f.aj.length n f.blocks.length u)).drop (k*2+0)=B false::bW (bR f.aj.length n w)::rr:=kd;refine aV ?_;refine ab (bC rfl (fun h=>oH) fun h=>cx (mQ Xl ?_));have VF:(bR f.aj.length n w).length=n:=At ..;obtain⟨q1,q2,q3⟩:=Au (R:=f.aj.length) (n:=n) hR oG Ks (l:=x.ins) (ok:=true) (fun y hy=>hn▸(hF.ins x X y hy).1) Ul Fz;have tJ:PCall prog 127 [.agg (aC f),I k,.agg (bV ⟨false,bR f.aj.length n w⟩)] (.agg (bV (dR f.aj.length x.ins ⟨false,bR f.aj.length n w⟩))):=tJ hx (by rw[hn];exact VF) (by show(bR f.aj.length n w).length<=_;omega) (fun y hy=>(hF.ins x X y hy).1) (by have:=(hF.ok.blk x X).len;omega);rw[q1] at tJ;have Cm:(g9 x w).1=(x.ins.foldl mv (w,true)).1:=rfl;rw[Cm] at J;clear Cm;generalize (x.ins.foldl mv (w,true)).1=w' at q1 q2 q3 tJ J;refine aV ?_;refine aB (cP rfl rfl qU kW ui) (by repeat' (first|exact trivial|exact rfl|refine And.intro ?_ ?_)) (cQ t158 kW (by rw[U];omega)) ?_;refine cl tJ ?_;refine ag ?_;have akB:(bR f.aj.length n w').length=n:=At ..;refine bj (by simp[apartT]) (aJ (kF (i:=N) (l:=[(1,.pt (aC f)),(3,I n),(4,.rs 1 0 f.blocks.length),(7,B u.ch),(8,I k),(9,.pt (bV ⟨false,bR f.aj.length n w'⟩))]) (ml:=[(1,.cells (cH (dQ f.aj.length n f.blocks.length u)) 158)]) (up_same _ _ _) ⟨rfl,rfl,yx oG,rfl,rfl,lC,trivial⟩ ⟨sW oG (af oG (af oG rfl)) GO,trivial⟩) (an ?_));have jy:=jy hx (by have:=hw x X;omega);rw[(hF.ed x X).2] at jy;have cZ:=(hF.ok.blk x X).to;have eT:=ur x.fin;have VG:=hw x X;have gZ:=hF.wr x X;have sE:=(hF.ed x X).1;generalize nextR x.fin=l at jy cZ eT J;refine ag ?_;refine cl jy ?_;refine SS ?_;refine ab (av ?_);refine SS ?_
    refine ab (cq (α:=Nat×Nat)
     (fun j=>⟨ay [(1,.pt (aC f)),(3,I n),(4,.rs 1 0 f.blocks.length),(7,B ((l.take j.1).foldl (cg x.fin w') u).ch),(8,I k),(9,.pt (bV ⟨false,bR f.aj.length n w'⟩)),(10,az l),(11,I j.1)],a9 [(1,.cells (cH (dQ f.aj.length n f.blocks.length ((l.take j.1).foldl (cg x.fin w') u))) 158)],j.2⟩)
     (fun j=>j.1<=l.length/\2<=j.2/\n3 f.aj.length n f.blocks.length ((l.take j.1).foldl (cg x.fin w') u)) (fun j=>l.length - j.1) (0,N+1) (aK eH eH) ⟨Nat.zero_le _,by dsimp only;omega,xT⟩ ?_)
    clear ui U;rintro⟨j,N'⟩ ⟨hj,Fa,FA⟩;dsimp only at hj Fa FA ⊢;have du:∀ t,l[j]? =some t->(l.take (j+1)).foldl (cg x.fin w') u=cg x.fin w' ((l.take j).foldl (cg x.fin w') u) t:=fun t ht=>kE ht;have m9:j=l.length->(l.take j).foldl (cg x.fin w') u=c7 f.blocks u k:=fun e=>by rw[J,List.take_of_length_le oG]
    generalize (l.take j).foldl (cg x.fin w') u=v at FA du m9;refine aF ?_;refine ab ⟨_,rfl,fun h=>?_,fun h=>?_⟩
    .have bZ:j<l.length:=by simpa using h
     have ht:l[j]? =some l[j]:=List.getElem?_eq_getElem bZ;have mM:=cZ _ (List.getElem_mem bZ);generalize l[j]=t at ht mM;obtain⟨i,rfl⟩:=Int.eq_ofNat_of_zero_le mM.1;have bl:i<f.blocks.length:=by omega
     have z4:=yg (R:=f.aj.length) (n:=n) (s:=v) bl;have ui:=Nx z4;have U:=(yG (dQ f.aj.length n f.blocks.length v)).trans (congrArg (·*2) (uq f.aj.length n f.blocks.length v));have oY:=fun q=>F5 (L:=dQ f.aj.length n f.blocks.length v) (t:=i) q (by rw[uq];exact bl);obtain⟨Ku,ld⟩:=NA (R:=f.aj.length) (n:=n) hR oG Ks FA sE gZ bl q2 q3;have du:=du _ ht
     have ve:PCall prog 126 [.agg (aC f),I k,I i,.agg (bV ⟨false,bR f.aj.length n w'⟩)] (.agg (bV (lD x.fin i ⟨false,bR f.aj.length n w'⟩))):=ve hx oG (by show(bR f.aj.length n w').length<=_;omega) (by
      rcases gZ with e|⟨r,h1,h2⟩
      .exact .inl e
      .exact .inr ⟨r,by show r<(bR f.aj.length n w').length;omega,h2⟩)
     have ns:(lD x.fin i ⟨false,bR f.aj.length n w'⟩).is.length=n:=(LU ..).trans akB;have cN:(bT f.aj.length n v i).is.length=n:=F6;have zt:=zt (a:=bT f.aj.length n v i) (b:=lD x.fin i ⟨false,bR f.aj.length n w'⟩) (by rw[cN,ns]) oG;unfold zv at ld
     have zH:(nY (bT f.aj.length n v i) (lD x.fin i ⟨false,bR f.aj.length n w'⟩)).is.length=n:=by
      unfold nY;split
      .exact ns
      .split
       .exact cN
       .show(List.zipWith _ _ _).length=n;rw[List.length_zipWith];omega
     generalize nY (bT f.aj.length n v i) (lD x.fin i ⟨false,bR f.aj.length n w'⟩)=now at zt ld zH;generalize lD x.fin i ⟨false,bR f.aj.length n w'⟩=ov at ve zt ns;generalize aoX:bT f.aj.length n v i=kB at zt ld cN ui;have ui:((cH (dQ f.aj.length n f.blocks.length v)).drop (i*2)).take 2=bV kB:=ui;refine av ?_;refine bD ?_;refine aB (cP rfl rfl qU kW ui) (by repeat' (first|exact trivial|exact rfl|refine And.intro ?_ ?_)) (cQ t158 kW (by rw[U];omega)) ?_;refine ag ?_;refine ab (aJ (kF (i:=N') (l:=[(1,.pt (aC f)),(3,I n),(4,.rs 1 0 f.blocks.length),(7,B v.ch),(8,I k),(9,.pt (bV ⟨false,bR f.aj.length n w'⟩)),(10,az l),(11,I j),(12,.pt (bV kB))]) (ml:=[(1,.cells (cH (dQ f.aj.length n f.blocks.length v)) 158)]) (up_same _ _ _) ⟨rfl,rfl,yx oG,rfl,rfl,rfl,rfl,rfl,lC,trivial⟩ ⟨sW oG (af oG (af oG rfl)) GO,trivial⟩) (mQ Xm ?_));refine bA ?_;refine cl ve ?_;refine cl zt ?_;refine ag ?_;refine bj (by simp[apartT]) (aJ (kF (i:=N'+1) (l:=[(1,.pt (aC f)),(3,I n),(4,.rs 1 0 f.blocks.length),(7,B v.ch),(8,I k),(9,.pt (bV ⟨false,bR f.aj.length n w'⟩)),(10,az l),(11,I j),(12,.pt (bV kB)),(13,.pt (bV now))]) (ml:=[(1,.cells (cH (dQ f.aj.length n f.blocks.length v)) 158)]) (up_same _ _ _) ⟨rfl,rfl,yx oG,rfl,rfl,rfl,rfl,rfl,rfl,lC,trivial⟩ ⟨sW oG (af oG (af oG rfl)) GO,trivial⟩) (an ?_));refine aF ?_;refine aB (O6 rfl rfl) ak V.h ?_;refine SS ?_;refine ab (aD (av ?_));refine SS ?_
     refine ab (bG (fun s=>Ghost prog s ⟨ay [(1,.pt (aC f)),(3,I n),(4,.rs 1 0 f.blocks.length),(7,B v.ch),(8,I k),(9,.pt (bV ⟨false,bR f.aj.length n w'⟩)),(10,az l),(11,I j),(13,.pt (bV now)),(14,B (nZ kB now n))],a9 [(1,.cells (cH (dQ f.aj.length n f.blocks.length v)) 158)],N'+2⟩) (cq (α:=Nat) (fun q=>⟨ay [(1,.pt (aC f)),(3,I n),(4,.rs 1 0 f.blocks.length),(7,B v.ch),(8,I k),(9,.pt (bV ⟨false,bR f.aj.length n w'⟩)),(10,az l),(11,I j),(12,.pt (bV kB)),(13,.pt (bV now)),(14,B (nZ kB now q)),(15,I q)],a9 [(1,.cells (cH (dQ f.aj.length n f.blocks.length v)) 158)],N'+2⟩)
      (fun q=>q<=n) (fun q=>n - q) 0 (aK ⟨rfl,rfl,rfl,rfl,rfl,rfl,rfl,rfl,rfl,rfl,?_,rfl,trivial⟩ eH) oG ?_) ?_)
     .show B (kB.any==now.any)=B (nZ kB now 0);unfold nZ;rw[List.range_zero,List.all_nil,Bool.and_true]
     .intro q hq;have vO:=Xk kB now q;have VM:q=n->nZ kB now q=nZ kB now n:=fun e=>by rw[e]
      generalize nZ kB now q=sq at vO VM;refine aw ?_;refine ab ⟨_,rfl,fun h=>?_,fun h=>?_⟩
      .have z2:q<n:=by simpa using h
       have FB:kB.is[q]? =some kB.is[q]:=List.getElem?_eq_getElem oG;have VN:now.is[q]? =some now.is[q]:=List.getElem?_eq_getElem oG;rw[getD_some FB,getD_some VN] at vO;generalize kB.is[q]=b1 at FB vO;generalize now.is[q]=b2 at VN vO;refine iZ Xn ?_;cases sq with
       |false=>
        refine ag ?_;(iterate 11 refine z fun _ _=>?_);refine ag ?_;refine bj (by simp[apartT]) ?_;refine aw ?_;refine ab (aH (q+1) (aK ⟨rfl,rfl,rfl,rfl,rfl,rfl,rfl,rfl,rfl,rfl,?_,rfl,trivial⟩ eH) oG oG);rw[vO];rfl
       |true=>
        refine aL ?_;refine aw ?_;refine akC ?_;refine ag ?_;refine bj (by simp[apartT]) ?_;refine aw ?_;refine ab (aH (q+1) (aK ⟨rfl,rfl,rfl,rfl,rfl,rfl,rfl,rfl,rfl,rfl,?_,rfl,trivial⟩ eH) oG oG);rw[vO];rfl
      .have aY:¬ q<n:=by simpa using h
       rw[<- VM oG];exact aK eH eH
     rintro s1 xx;have cw:=Yl cN zH;generalize nZ kB now n=sq at xx cw;refine⟨_,xx,an ?_⟩;clear xx;refine ag ?_;refine ab (au rfl (fun hp=>?_) fun hp=>b8 ?_)
     .have hns:¬ (kB.any=now.any/\kB.is=now.is):=fun h=>by rw[cw.2 h] at hp;cases hp
      have oY:=oY (BX now);rcases ld with⟨ld,_⟩|⟨_,q7,Kv⟩
      .exact absurd ⟨congrArg Cert.any ld.symm,congrArg Cert.is ld.symm⟩ hns
      rw[Xj Kv] at oY;refine dd Xo ?_;refine cK ?_;refine cr (fk (vs:=bV now) rfl rfl rfl oY) (by repeat' (first|exact trivial|exact rfl|refine And.intro ?_ ?_)) (dy t158 kW ⟨rfl,by rw[U];omega⟩ rfl) ?_;refine bj (by simp[apartT]) (dJ ?_);refine SS ?_;refine ab ?_;refine aw ?_;refine ab (aH (j+1,N'+2) (aK ⟨rfl,rfl,rfl,?_,rfl,rfl,rfl,rfl,trivial⟩ ⟨?_,trivial⟩) ⟨by dsimp only;omega,by dsimp only;omega,?_⟩ oM)
      .dsimp only;rw[du,q7];rfl
      .dsimp only;rw[du];rfl
      .dsimp only;rw[du];exact Ku
     .have hsq:sq=true:=by simpa using hp
      have VO:=cw.1 hsq;rcases ld with⟨_,ld⟩|⟨aI,_,_⟩
      .rw[ld] at du Ku;refine aw ?_;refine ab (aH (j+1,N'+2) (aK ⟨rfl,rfl,rfl,?_,rfl,rfl,rfl,rfl,trivial⟩ ⟨?_,trivial⟩) ⟨by dsimp only;omega,by dsimp only;omega,?_⟩ oM)
       .dsimp only;rw[du];rfl
       .dsimp only;rw[du];rfl
       .dsimp only;rw[du];exact Ku
      .exfalso;rcases aI with h|h
       .exact h VO.1.symm
       .exact h VO.2.symm
    .have aY:¬ j<l.length:=by simpa using h
     have vl:=m9 oG;subst vl;show AOps _ _ _ _ _ _ _ _ _;refine aw ?_;refine ab (aH (k+1,N') (aK ⟨rfl,rfl,rfl,?_,rfl,trivial⟩ ⟨?_,trivial⟩) ⟨by dsimp only;omega,Fa,?_⟩ oM)
     .dsimp only;rw[bL];rfl
     .dsimp only;rw[bL];rfl
     .dsimp only;rw[bL];exact FA
   .have aY:¬ k<f.blocks.length:=by simpa using h
    have hl:=fR oG;subst hl;refine aH (iX f.blocks C,N) (aK eH eH) ⟨xT,hN,fun hc=>?_,fun hc=>?_⟩ ?_
    .refine⟨ff,?_,?_⟩
     .have:=uQ.2;unfold mL at this;show oO (iX f.blocks C)<ff;rw[if_pos hc] at this;omega
     .dsimp only at hc ⊢;rw[<- uP,ll,if_pos hc]
    .dsimp only at hc ⊢;rw[<- uP,ll,if_neg (by simp[hc])]
    .have:=uQ.2;unfold mL at this;dsimp only;rw[if_pos h0];split at this<;>rename_i hc
     .rw[if_pos hc];omega
     .rw[if_neg hc];omega
  .have Cn:=u4 h;subst Cn;exact⟨N0,aK eH eH⟩
 .rintro s ⟨N4,hg⟩;refine⟨_,hg,av ?_⟩;refine ag ?_;refine ab (aJ (bp [(1,cH (dQ f.aj.length n f.blocks.length RR),158)] eH (l:=[(2,.sl (cH (dQ f.aj.length n f.blocks.length RR)) f.blocks.length)]) ⟨?_,trivial⟩) (ax rfl rfl));show sub (fz0 1 _ (prog.cellsOf 158)) (D.rs 1 0 f.blocks.length)=_;rw[gv (by rw[kW,yG,uq])]
end Go.Proofs.Tryz.K
namespace Go.Argus
open Go.Proofs.Tryz.K (nextR)
@[simp] theorem Lf (p : Bool × D) : (ng p).length = 2 := rfl
theorem KZ{f:aA}(h:hC f=true):∀ b∈f.blocks,iC f b.fin=true:=fun b hb=>by
 unfold hC at h;simp only[Bool.and_eq_true] at h;obtain⟨_,_,_,h4,_⟩:=h;obtain⟨k,hk⟩:=List.getElem?_of_mem hb;have:=List.all_eq_true.1 h4 k (by simpa using(List.getElem?_eq_some_iff.1 hk).1);unfold iy at this;simp only[getD_some hk,Bool.and_eq_true] at this;exact this.1
theorem Du{f:aA}{k:Nat}{x:bt}(h:f.blocks[k]? =some x):gk f k=nextR x.fin:=by
 unfold gk bq bw;rw[List.getD_eq_getElem?_getD,List.getElem?_map,h];rfl
theorem aaF{l:List Bool}{b:Nat}(hb:b<l.length)(h:l.getD b false=false):(l.set b true).count false<l.count false:=by
 have:=um (uo h hb);omega
end Go.Argus
namespace Go.Proofs.Tryz.K
set_option maxRecDepth 10000
set_option maxHeartbeats 2000000 in
theorem z5{f:aA}(hs:wJ f)(hw:∀ b∈f.blocks,b.fin.aE.length<=9):PCall prog 55 [.agg (aC f)] (I (fN f)):=by
 rw[<- Ym];have zs:=zs hs hw;have E8:HF f=if sY f=true then(if(List.range f.blocks.length).all (n4 f (gf f.blocks f.args.toNat))=true then 0 else 81) else 80:=rfl
 refine aX mixed Un (by rw[akD];rfl) (.cons (.agg (gz f)) .nil) (Tr.s _) ?_;rw[akE,akF,E8];clear E8;refine av ?_;refine ag ?_;refine ab (aJ (bp [(0,aC f,26)] eH (l:=[(1,.pt (aC f))]) eH) (an ?_));cases hf:sY f with
 |false=>
  rw[hf] at zs;refine SS ?_;refine cl zs ?_;refine SS ?_;refine ab (aD (an ?_));refine ag ?_;refine ab (bC rfl (fun _=>?_) fun h=>oH);refine aD (an ?_);refine SS ?_;exact ab (dx (ax rfl rfl))
 |true=>
 rw[hf] at zs;rw[if_pos rfl];rw[Ll] at hf;have he:=KZ hf;have hF:=Bw hf;have zu:=zu hF hw;have hR:=hF.ok.aj;have hS:=hF.sl;have Fy:=hF.ok.mK;have p8:=p8 (f:=f) rfl oG hw (fun b hb t ht=>by rw[(hF.ed b hb).2] at ht;exact(hF.ok.blk b hb).to t ht)
 have VP:∀ k,k<f.blocks.length->(jI f.blocks)[k]? =some (br f.blocks f.blocks.length k):=fun k hk=>by
  rw[<- Gl he];simp[jI,hk]
 have z3:(jI f.blocks).length=f.blocks.length:=by simp[jI]
 generalize jI f.blocks=L at p8 VP z3
 have VQ:Bj f (gf f.blocks f.args.toNat)=.sl ((dQ f.aj.length (f.aj.length+f.aP.length) f.blocks.length (gf f.blocks f.args.toNat)).flatMap ng) (dQ f.aj.length (f.aj.length+f.aP.length) f.blocks.length (gf f.blocks f.args.toNat)).length:=by
  unfold Bj;rw[uq];rfl
 rw[VQ] at zu;clear VQ;generalize gf f.blocks f.args.toNat=RR at zu ⊢;have Kw:∀ k,k<f.blocks.length->(dQ f.aj.length (f.aj.length+f.aP.length) f.blocks.length RR)[k]? =some (BX (bT f.aj.length (f.aj.length+f.aP.length) RR k)):=fun k hk=>yg hk;have hCl:=uq f.aj.length (f.aj.length+f.aP.length) f.blocks.length RR;generalize dQ f.aj.length (f.aj.length+f.aP.length) f.blocks.length RR=CP at zu Kw hCl;refine SS ?_;refine cl zs ?_;refine SS ?_;refine ab (aD (an ?_));refine ag ?_;refine ab (bC rfl (fun h=>oH) fun _=>cx (an ?_));refine SS ?_;refine cl zu ?_;refine SS ?_;refine er ?_;refine SS ?_;refine cl p8 ?_;refine SS ?_;refine ab (aD (av ?_));refine SS ?_
 refine ab (bG (fun s=>(∃ N,Ghost prog s ⟨ay [],fun _=>none,N⟩)/\(List.range f.blocks.length).all (n4 f RR)=true) (cq (α:=Nat×Nat) (fun q=>⟨ay [(1,.pt (aC f)),(4,.sl (CP.flatMap ng) CP.length),(5,bd L),(6,I q.1)],fun _=>none,q.2⟩)
  (fun q=>q.1<=f.blocks.length/\(List.range q.1).all (n4 f RR)=true) (fun q=>f.blocks.length - q.1) (0,1) (eW eH) ⟨Nat.zero_le _,rfl⟩ ?_) ?_)
 .rintro⟨k,N⟩ ⟨hk,bH⟩;dsimp only at hk bH ⊢;refine aV ?_;refine ab ⟨_,rfl,fun h=>?_,fun h=>?_⟩
  .have ao:k<f.blocks.length:=by simpa using h
   have hx:f.blocks[k]? =some f.blocks[k]:=List.getElem?_eq_getElem ao;have bI:f.blocks[k]∈f.blocks:=List.getElem_mem _;have z4:=Kw k ao;have oe:n4 f RR k=false->(if(List.range f.blocks.length).all (n4 f RR)=true then(0:Int) else 81)=81:=fun hq=>by rw[mP ao hq];rfl
   have vQ:n4 f RR k=((bT f.aj.length (f.aj.length+f.aP.length) RR k).any||((List.range f.blocks[k].ins.length).all (xg f RR k f.blocks[k].ins (bT f.aj.length (f.aj.length+f.aP.length) RR k))&&p7 (dR f.aj.length f.blocks[k].ins (bT f.aj.length (f.aj.length+f.aP.length) RR k)) (bJ f.blocks[k].fin))):=by
    unfold n4;simp only[getD_some hx]
   have cN:(bT f.aj.length (f.aj.length+f.aP.length) RR k).is.length=f.aj.length+f.aP.length:=F6;generalize f.blocks[k]=x at hx bI vQ;generalize bT f.aj.length (f.aj.length+f.aP.length) RR k=c at z4 vQ cN;obtain⟨ca,C⟩:=c;refine aD (an ?_);cases ca with
   |true=>
    refine aV ?_;refine ab (bC rfl (fun h=>qc (wC ?_)) fun h=>oH);refine aw ?_;exact ab (aH (k+1,N) (eW eH) ⟨by dsimp only;omega,j4 bH vQ⟩ oM)
   |false=>
   refine aV ?_;refine ab (bC rfl (fun h=>oH) fun h=>cx (av ?_));rw[show({ any:=false,is:=C }:Cert).any=false from rfl,Bool.false_or] at vQ;refine bD ?_;refine ab (aJ (aK (l:=[(1,.pt (aC f)),(4,.sl (CP.flatMap ng) CP.length),(5,bd L),(6,I k),(7,.rp N 0)]) (ml:=[(N,.cells (bV ⟨false,C⟩) 158)]) eH ⟨up_same _ _ _,trivial⟩) (an ?_));refine cK ?_;have cO:=(hF.ok.blk x bI).len;have akG:=hF.ins x bI;have wY:=hF.Fh k x hx;have J':=VP k ao;have zw:=C0 (fun b hb t ht=>((hF.ok.blk b hb).to t ht).1) f.blocks.length k;have agX:=hF.ok.blk;have J:∀ y q,n5 f RR k y q=n5 f RR k y q:=fun _ _=>rfl;refine ab (aD (av ?_));refine SS ?_
   refine ab (bG (fun s=>∃ N',Ghost prog s ⟨ay [(1,.pt (aC f)),(4,.sl (CP.flatMap ng) CP.length),(5,bd L),(6,I k),(7,.rp N 0)],a9 [(N,.cells (bV (dR f.aj.length x.ins ⟨false,C⟩)) 158)],N'⟩/\N<N'/\(List.range x.ins.length).all (xg f RR k x.ins ⟨false,C⟩)=true) (cq (α:=Nat×Nat) (fun j=>⟨ay [(1,.pt (aC f)),(4,.sl (CP.flatMap ng) CP.length),(5,bd L),(6,I k),(7,.rp N 0),(8,dt x.ins),(9,I j.1)],a9 [(N,.cells (bV (dR f.aj.length (x.ins.take j.1) ⟨false,C⟩)) 158)],j.2⟩)
    (fun j=>j.1<=x.ins.length/\N<j.2/\(List.range j.1).all (xg f RR k x.ins ⟨false,C⟩)=true) (fun j=>x.ins.length - j.1) (0,N+1) (aK eH ⟨up_same _ _ _,trivial⟩) ⟨Nat.zero_le _,Nat.lt_succ_self _,rfl⟩ ?_) ?_)
   .rintro⟨j,M⟩ ⟨hj,hM,sO⟩;dsimp only at hj hM sO ⊢;have aO:∀ y,x.ins[j]? =some y->dR f.aj.length (x.ins.take (j+1)) ⟨false,C⟩=tG f.aj.length (dR f.aj.length (x.ins.take j) ⟨false,C⟩) y:=fun y hy=>kE hy;have fR:j=x.ins.length->dR f.aj.length (x.ins.take j) ⟨false,C⟩=dR f.aj.length x.ins ⟨false,C⟩:=fun e=>by rw[e,List.take_length]
    have vP:=(Ak f.aj.length (x.ins.take j) ⟨false,C⟩).trans cN;have cF:xg f RR k x.ins ⟨false,C⟩ j=(opsV f.aj.length (dR f.aj.length (x.ins.take j) ⟨false,C⟩) (x.ins.getD j dh)&&zx f RR k (x.ins.getD j dh)):=rfl;generalize dR f.aj.length (x.ins.take j) ⟨false,C⟩=d at aO fR vP cF;refine aF ?_;refine ab ⟨_,rfl,fun h=>?_,fun h=>?_⟩
    .have bZ:j<x.ins.length:=by simpa using h
     have hy:x.ins[j]? =some x.ins[j]:=List.getElem?_eq_getElem bZ;have aO:=aO _ hy;rw[getD_some hy] at cF;have tT:=akG _ (List.getElem_mem bZ);have oR:=wY j _ hy;have qI:xg f RR k x.ins ⟨false,C⟩ j=false->(if(List.range f.blocks.length).all (n4 f RR)=true then(0:Int) else 81)=81:=fun hq=>oe (by rw[vQ,mP bZ hq];rfl);generalize x.ins[j]=y at hy aO cF tT oR;refine av ?_;refine bD ?_;refine ab (aJ (kF (i:=M) (l:=[(1,.pt (aC f)),(4,.sl (CP.flatMap ng) CP.length),(5,bd L),(6,I k),(7,.rp N 0),(8,dt x.ins),(9,I j),(10,.pt (a8 y))]) (ml:=[(N,.cells (bV d) 158)]) (up_same _ _ _) ⟨rfl,rfl,rfl,rfl,Dr oG,rfl,rfl,lC,trivial⟩ ⟨sW oG (af oG (af oG (up_same _ _ _))) rfl,trivial⟩) (dB (fun s=>Ghost prog s ⟨ay [(1,.pt (aC f)),(4,.sl (CP.flatMap ng) CP.length),(5,bd L),(6,I k),(7,.rp N 0),(8,dt x.ins),(9,I j),(10,.pt (a8 y))],a9 [(N,.cells (bV d) 158)],M+1⟩/\opsV f.aj.length d y=true) ?_ ?_))
     .have bf:=(agX x bI).ins y (List.mem_of_getElem? hy);clear aO oR;obtain⟨U,yt,ya,yb,yn,yl⟩:=y;have nB:opsV f.aj.length d ⟨U,yt,ya,yb,yn,yl⟩=((U !=17||d.is.getD ((f.aj.length:Int)+yn).toNat false)&&p7 d (bK ⟨U,yt,ya,yb,yn,yl⟩)):=rfl;have od:=od (x:=⟨U,yt,ya,yb,yn,yl⟩) (fun ho=>by have:=bf.ar ho;dsimp only at this ⊢;omega)
      have qT:=qT (c:=d) (rs:=bK ⟨U,yt,ya,yb,yn,yl⟩) (fun r hr=>by
       obtain⟨i,h1,h2⟩:=tT.2.r r hr
       exact⟨i,by omega,h2⟩)
      generalize p7 d (bK ⟨U,yt,ya,yb,yn,yl⟩)=v at qT nB;generalize bK ⟨U,yt,ya,yb,yn,yl⟩=rs at qT od;have Uo:opsV f.aj.length d ⟨U,yt,ya,yb,yn,yl⟩=false->I 81=I (if(List.range f.blocks.length).all (n4 f RR)=true then 0 else 81):=fun hq=>by rw[qI (by rw[cF,hq];rfl)]
      refine dd Yn ?_;by_cases fY:U=17
      .obtain⟨i,hi,e⟩:=tT.2.s fY;dsimp only at e;subst e;have FC:d.is[f.aj.length+i]? =some d.is[f.aj.length+i]:=List.getElem?_eq_getElem oG;have dI:(U==17)=true:=by simp[fY]
       rw[show((f.aj.length:Int)+(i:Int)).toNat=f.aj.length+i by omega,getD_some FC,show(U !=17)=false by simp[fY],Bool.false_or] at nB;generalize d.is[f.aj.length+i]=b at FC nB;have hqn:({ op:=U,to:=yt,a:=ya,b:=yb,n:=(i:Int),args:=yl }:aW).n=(i:Int):=rfl;refine aL ?_;refine ag ?_;refine bm rfl rfl (Q1 rfl rfl oG) (fun hc=>⟨ak,rfl⟩) ?_;refine aV ?_;refine bm rfl rfl (cP rfl (up_same _ _ _) V.h V.h rfl) (fun hc=>⟨ak,(cQ V.h V.h (by first|(simp;done)|omega|exact Nat.le_of_ble_eq_true rfl))⟩) ?_;refine SS ?_;refine gc od ?_;refine gc qT ?_;refine ag ?_;refine bj (by simp[apartT]) (au rfl (fun hp=>an ?_) fun hp=>aZ ⟨aK eH ⟨up_same _ _ _,trivial⟩,by rw[nB];revert hp;cases b<;>cases v<;>simp⟩);refine SS ?_;exact ab (aU (aQ (b7 (aQ (b7 (aQ (ax rfl (Uo (by rw[nB];revert hp;cases b<;>cases v<;>simp)))))))))
      .have dI:(U==17)=false:=by simp[fY]
       rw[show(U !=17)=true by simp[fY],Bool.true_or,Bool.true_and] at nB;refine aF ?_;(iterate 11 refine z fun _ _=>?_);refine ag ?_;refine bm rfl rfl (cP rfl (up_same _ _ _) V.h V.h rfl) (fun hc=>⟨ak,(cQ V.h V.h (by first|(simp;done)|omega|exact Nat.le_of_ble_eq_true rfl))⟩) ?_;refine SS ?_;refine gc od ?_;refine gc qT ?_;refine ag ?_;refine bj (by simp[apartT]) (au rfl (fun hp=>an ?_) fun hp=>aZ ⟨aK eH ⟨up_same _ _ _,trivial⟩,by rw[nB];revert hp;cases v<;>simp⟩);refine SS ?_;exact ab (aU (aQ (b7 (aQ (b7 (aQ (ax rfl (Uo (by rw[nB];revert hp;cases v<;>simp)))))))))
     rintro s ⟨hg,Up⟩;rw[Up,Bool.true_and] at cF;clear Up;have lJ:=lJ (x:=y)
     have hp:BV d.is.length (bM y):=by
      rcases tT.1.w with e|⟨i,h1,h2⟩
      .exact .inl e
      .exact .inr ⟨i,by omega,h2⟩
     have kw:=iQ (c:=d) oG hp;have nD:=(Dh d (bM y)).trans vP
     have kv:y.op=18->PCall prog 124 [.agg (bV (ia d (bM y))),I ((f.aj.length:Int)+y.n)] (.agg (bV (ia (ia d (bM y)) ((f.aj.length:Int)+y.n)))):=fun e=>iQ oG (by
      obtain⟨i,h1,h2⟩:=tT.1.s e
      exact .inr ⟨f.aj.length+i,by omega,by rw[h2];omega⟩)
     have fM:y.op=18->0<=y.n/\y.n<=2000:=fun e=>by
      obtain⟨i,h1,h2⟩:=tT.1.s e;omega
     have qL:=aO;unfold tG at qL;generalize ia d (bM y)=d1 at kw nD kv qL;generalize bM y=w at lJ kw;have iQ:=kw;refine⟨_,hg,mQ Yo ?_⟩;clear hg;refine ag ?_;refine cl lJ ?_;refine cl iQ ?_;refine SS ?_;refine bj (by simp[apartT]) (aJ (aK (l:=[(1,.pt (aC f)),(4,.sl (CP.flatMap ng) CP.length),(5,bd L),(6,I k),(7,.rp N 0),(8,dt x.ins),(9,I j),(10,.pt (a8 y))]) (ml:=[(N,.cells (bV d1) 158)]) eH ⟨up_same _ _ _,trivial⟩) (dB (fun s=>Ghost prog s ⟨ay [(1,.pt (aC f)),(4,.sl (CP.flatMap ng) CP.length),(5,bd L),(6,I k),(7,.rp N 0),(8,dt x.ins),(9,I j),(10,.pt (a8 y))],a9 [(N,.cells (bV (dR f.aj.length (x.ins.take (j+1)) ⟨false,C⟩)) 158)],M+1⟩) (an ?_) ?_))
     .refine aw ?_;refine ab (au rfl (fun dA=>j9 ?_) fun dA=>aZ ?_)
      .have dA:y.op=18:=by simpa using dA
       rw[if_pos dA] at qL;have iQ:=kv dA;have oJ:=fM dA;refine cK ?_;refine cl iQ ?_;refine SS ?_;refine ab (aK eH ⟨?_,trivial⟩);rw[qL];exact up_same _ _ _
      .have dA:¬ y.op=18:=by simpa using dA
       rw[if_neg dA] at qL;refine aK eH ⟨?_,trivial⟩;rw[qL];exact up_same _ _ _
     intro s hg;refine⟨_,hg,av ?_⟩;clear hg qL kw kv nD iQ lJ hp fM aO;refine SS ?_;generalize VR:dR f.aj.length (x.ins.take (j+1)) ⟨false,C⟩=dj
     refine ab (cq (α:=Nat×Nat) (fun q=>⟨ay [(1,.pt (aC f)),(4,.sl (CP.flatMap ng) CP.length),(5,bd L),(6,I k),(7,.rp N 0),(8,dt x.ins),(9,I j),(10,.pt (a8 y)),(11,I q.1)],a9 [(N,.cells (bV dj) 158)],q.2⟩)
      (fun q=>q.1<=y.args.length/\N<q.2/\(q.1=0\/y.op=19)/\(List.range q.1).all (n5 f RR k y)=true) (fun q=>y.args.length - q.1) (0,M+1) (aK eH ⟨up_same _ _ _,trivial⟩) ⟨Nat.zero_le _,by dsimp only;omega,.inl rfl,rfl⟩ ?_)
     rintro⟨q,M2⟩ ⟨hq,jz,akH,xU⟩;dsimp only at hq jz akH xU ⊢;by_cases dF:y.op=19
     .have dI:(y.op==19)=true:=by simp[dF]
      have VS:bx y=true:=by simp[bx,dF]
      have oR:=(oR VS).1;have FD:zx f RR k y=(List.range y.args.length).all (n5 f RR k y):=by unfold zx;rw[VS];rfl
      have Cq:∀ p∈br f.blocks f.blocks.length k,∃ X:Nat,p=X/\X<f.blocks.length:=fun p hp=>by
       obtain⟨b,h1,h2,_⟩:=Ad.1 hp;exact⟨b,h1,h2⟩
      have J:∀ q,n5 f RR k y q=((bT f.aj.length (f.aj.length+f.aP.length) RR ((br f.blocks f.blocks.length k).getD q 0).toNat).any||(lD (f.blocks.getD ((br f.blocks f.blocks.length k).getD q 0).toNat iH).fin k (dR f.aj.length (f.blocks.getD ((br f.blocks f.blocks.length k).getD q 0).toNat iH).ins (bT f.aj.length (f.aj.length+f.aP.length) RR ((br f.blocks f.blocks.length k).getD q 0).toNat))).is.getD (y.args.getD q 0).toNat false):=fun q=>rfl;have akI:=tT.2.p dF;have vG:=CX hw f.blocks.length k;generalize br f.blocks f.blocks.length k=A at oR Cq J J' vG;by_cases z2:q<y.args.length
      .have pK:decide ((q:Int)<(y.args.length:Int))=true:=decide_eq_true oG;refine bA ?_;refine Uq ?_;refine SS ?_;refine ab ⟨_,rfl,fun h=>?_,fun h=>oH⟩;have J:=J q;have VT:A[q]? =some A[q]:=List.getElem?_eq_getElem oG;obtain⟨X,e1,Cr⟩:=Cq _ (List.getElem_mem (h:=by omega):A[q]∈A);rw[e1] at VT;clear e1;rw[getD_some VT,Int.toNat_natCast] at J;have xS:=Kw X Cr;have Ji:(bT f.aj.length (f.aj.length+f.aP.length) RR X).is.length=f.aj.length+f.aP.length:=F6;generalize bT f.aj.length (f.aj.length+f.aP.length) RR X=cp at xS J Ji;obtain⟨pa,pi⟩:=cp;refine ws ?_;refine bA ?_;refine ab (aD (an ?_));cases pa with
       |true=>
        refine aV ?_;refine ab (bC rfl (fun h=>qc (wC ?_)) fun h=>oH);refine aw ?_;exact ab (aH (q+1,M2) (aK eH ⟨up_same _ _ _,trivial⟩) ⟨by dsimp only;omega,jz,.inr dF,j4 xU J⟩ oM)
       |false=>
       refine aV ?_;refine ab (bC rfl (fun h=>oH) fun h=>cx (mQ Yp ?_));have sL:f.blocks[X]? =some f.blocks[X]:=List.getElem?_eq_getElem Cr;have oa:f.blocks[X]∈f.blocks:=List.getElem_mem _;rw[getD_some sL] at J;generalize f.blocks[X]=xp at sL oa J;have tJ:=tJ (c:=⟨false,pi⟩) sL Ji oG (fun y hy=>(hF.ins xp oa y hy).1) (by have:=(hF.ok.blk xp oa).len;omega);have iT:=(Ak f.aj.length xp.ins ⟨false,pi⟩).trans Ji;generalize dR f.aj.length xp.ins ⟨false,pi⟩=pc at tJ J iT
       have ve:=ve (c:=pc) (to:=(k:Int)) sL (by have:=hw xp oa;omega) oG (by
        rcases hF.wr xp oa with e|⟨r,h1,h2⟩
        .exact .inl e
        .exact .inr ⟨r,by omega,h2⟩)
       have sJ:=(LU xp.fin k pc).trans iT;generalize lD xp.fin k pc=zQ at ve J sJ;have Fs:y.args[q]? =some y.args[q]:=List.getElem?_eq_getElem z2;obtain⟨ri,xI,e2⟩:=akI _ (List.getElem_mem z2);rw[e2] at Fs;clear e2;have VU:zQ.is[ri]? =some zQ.is[ri]:=List.getElem?_eq_getElem oG;rw[getD_some Fs,Int.toNat_natCast,getD_some VU] at J;generalize zQ.is[ri]=bz at VU J;have J:n5 f RR k y q=bz:=J;refine aL ?_;refine cl tJ ?_;refine cl ve ?_;refine ag ?_;refine bj (by simp[apartT]) (aJ (kF (i:=M2) (l:=[(1,.pt (aC f)),(4,.sl (CP.flatMap ng) CP.length),(5,bd L),(6,I k),(7,.rp N 0),(8,dt x.ins),(9,I j),(10,.pt (a8 y)),(11,I q),(13,.pt (bV zQ))]) (ml:=[(N,.cells (bV dj) 158)]) (up_same _ _ _) ⟨rfl,rfl,rfl,rfl,Dr oG,rfl,rfl,rfl,rfl,lC,trivial⟩ ⟨sW oG (af oG (af oG (up_same _ _ _))) rfl,trivial⟩) (dd Yq ?_));refine bA ?_;refine ag ?_;refine bj (by simp[apartT]) (au rfl (fun hp=>an ?_) fun hp=>b8 ?_)
       .have Kx:bz=false:=by simpa using hp
        refine SS ?_;refine ab (aU (b7 (b7 (aQ (b7 (aQ (ax (d:=I 81) rfl ?_)))))));rw[qI (by rw[cF,FD,mP z2 (by rw[J,Kx])])]
       .have Kx:bz=true:=by simpa using hp
        refine aw ?_;exact ab (aH (q+1,M2+1) (aK eH ⟨up_same _ _ _,trivial⟩) ⟨by dsimp only;omega,by dsimp only;omega,.inr dF,j4 xU (by rw[J,Kx])⟩ oM)
      .have pK:decide ((q:Int)<(y.args.length:Int))=false:=decide_eq_false oG;have:q=y.args.length:=by omega
       subst this;rw[<- FD] at xU;refine bA ?_;refine Uq ?_;refine SS ?_;refine ab ⟨_,rfl,fun h=>oH,fun h=>?_⟩;show AOps _ _ _ _ _ _ _ _ _;refine aw ?_;refine ab (aH (j+1,M2) (aK eH ⟨?_,trivial⟩) ⟨by dsimp only;omega,jz,j4 sO (by rw[cF,xU])⟩ oM);dsimp only;rw[VR];exact up_same _ _ _
     .have dI:(y.op==19)=false:=by simp[dF]
      have FD:zx f RR k y=true:=by unfold zx bx;simp[dF]
      refine aF ?_;(iterate 5 refine z fun _ _=>?_);refine SS ?_;refine ab ⟨_,rfl,fun h=>oH,fun h=>?_⟩;show AOps _ _ _ _ _ _ _ _ _;refine aw ?_;refine ab (aH (j+1,M2) (aK eH ⟨?_,trivial⟩) ⟨by dsimp only;omega,jz,j4 sO (by rw[cF,FD])⟩ oM);dsimp only;rw[VR];exact up_same _ _ _
    .have aY:¬ j<x.ins.length:=by simpa using h
     have:j=x.ins.length:=by omega
     subst this;rw[<- fR rfl];exact⟨M,aK eH ⟨up_same _ _ _,trivial⟩,hM,sO⟩
   .rintro s ⟨M,hg,hM,nE⟩;rw[nE,Bool.true_and] at vQ;have vP:=(Ak f.aj.length x.ins ⟨false,C⟩).trans cN;refine⟨_,hg,dd Yr ?_⟩;generalize dR f.aj.length x.ins ⟨false,C⟩=d at vQ vP;have tH:=tH (x:=x.fin) (fun h5 ho=>by have:=(hF.ok.TL x bI h5).ar ho;omega) (fun h1=>by have:=(hF.ok.ends x bI).fin.a2 (by rcases h1 with e|e<;>simp[aG,e]);omega)
    have qT:=qT (c:=d) (rs:=bJ x.fin) (fun r hr=>by
     obtain⟨i,h1,h2⟩:=hF.rd x bI r hr
     exact⟨i,by omega,h2⟩)
    rw[<- vQ] at qT;generalize bJ x.fin=rs at tH qT;refine cK ?_;refine cl tH ?_;refine cl qT ?_;refine SS ?_;refine bj (by simp[apartT]) (au rfl (fun hp=>?_) fun hp=>b8 ?_)
    .refine ws ?_;refine SS ?_;refine ab (aU (b7 (aQ (ax (d:=I 81) rfl ?_))));rw[oe (by simpa using hp)]
    .refine aw ?_;exact ab (aH (k+1,M) (eW eH) ⟨by dsimp only;omega,j4 bH (by simpa using hp)⟩ oM)
  .have aY:¬ k<f.blocks.length:=by simpa using h
   have:k=f.blocks.length:=by omega
   subst this;exact⟨⟨N,eW (l:=[]) trivial⟩,bH⟩
 .rintro s ⟨⟨N,hg⟩,bH⟩;refine⟨_,hg,an ?_⟩;refine SS ?_;refine ab (ax (d:=I 0) rfl ?_);rw[bH];rfl
end Go.Proofs.Tryz.K
end
namespace Go.Argus
open Go Go.Abs
section
variable{beh:Nat->List Int}{w:Int}{S:Nat->Prop}(hS:∀ x,S x->∀ c∈beh x,c≠w->S c.toNat)
include hS
theorem OT:∀ (k:Nat) (s:List Bool×List Int) (b:Nat),S b->(∀ i,s.1.getD i false=true->S i)->∀ i,(dE beh w k s b).1.getD i false=true->S i
 |0,s,b,_,h,i,hi=>h i hi
 |k+1,s,b,hb,h,i,hi=>by
  rw[v8] at hi
  have h1:∀ i,(s.1.set b true).getD i false=true->S i:=fun i hi=>by
   rw[List.getD_eq_getElem?_getD,List.getElem?_set] at hi;by_cases e:b=i
   .subst e;exact hb
   .rw[if_neg e, <- List.getD_eq_getElem?_getD] at hi;exact h i hi
  have key:∀ l:List Int,(∀ c∈l,c∈beh b)->∀ t:List Bool×List Int,(∀ i,t.1.getD i false=true->S i)->∀ i,(dv beh w k t l).1.getD i false=true->S i:=fun l=>by
   induction l with
   |nil=>exact fun _ t ht i hi=>ht i hi
   |cons c l ih=>
    intro hl t ht i hi;unfold dv at hi;rw[List.foldl_cons] at hi;refine ih (fun c hc=>hl c (by simp[hc])) _ ?_ i hi;split
    .rename_i hc;exact OT k t c.toNat (hS b hb c (hl c oS) hc.2) ht
    .exact ht
  exact key (beh b) (fun _ h=>h) _ h1 i hi
theorem YE{n:Nat}(h0:S 0):∀ i,(dC beh n w).getD i false=true->S i:=fun i hi=>by
 have C:∀ i,(List.replicate n false).getD i false=false:=fun i=>by
  rw[List.getD_eq_getElem?_getD,List.getElem?_replicate];split<;>rfl
 unfold dC at hi;split at hi
 .rw[C] at hi;cases hi
 .exact OT hS n _ 0 h0 (fun i hi=>by rw[C] at hi;cases hi) i hi
end
theorem Xp{beh:Nat->List Int}{n:Nat}{w:Int}(hb:∀ b,∀ c∈beh b,0<=c/\c.toNat<n)(hn:0<n)(C:w≠0):(dC beh n w).getD 0 false=true/\∀ x,(dC beh n w).getD x false=true->∀ c∈beh x,c≠w->(dC beh n w).getD c.toNat false=true:=by
 obtain⟨_,h2,h3⟩:=EP hb hn w;unfold dC;rw[if_neg C];exact⟨h2,h3⟩
theorem ZC{beh:Nat->List Int}{n:Nat}{w:Int}(hb:∀ b,∀ c∈beh b,0<=c/\c.toNat<n)(hn:0<n){o:List Bool}(hl:o.length=n)(h0:o.getD 0 false=true)
 (hc:∀ x,o.getD x false=true->∀ c∈beh x,c≠w->o.getD c.toNat false=true) (C:∀ i,o.getD i false=true->(dC beh n w).getD i false=true):o=dC beh n w:=by
 have hr:=yp hb hn w;apply List.ext_getElem?;intro i;by_cases hi:i<n
 .have h1:o[i]? =some o[i]:=List.getElem?_eq_getElem oG;have h2:(dC beh n w)[i]? =some (dC beh n w)[i]:=List.getElem?_eq_getElem oG;have e1:o.getD i false=o[i]:=by simp[List.getD_eq_getElem?_getD,h1]
  have e2:(dC beh n w).getD i false=(dC beh n w)[i]:=by simp[List.getD_eq_getElem?_getD,h2]
  rw[h1,h2];congr 1;rw[Bool.eq_iff_iff, <- e1, <- e2];exact⟨C i,YE (S:=fun i=>o.getD i false=true) hc h0 i⟩
 .rw[List.getElem?_eq_none oG,List.getElem?_eq_none oG]
section
variable{beh ahd:Nat->List Int}{n:Nat}(h:w8 beh ahd n)
include h
end
section
variable{beh ahd:Nat->List Int}{n:Nat}(h:w8 beh ahd n)
include h
end
end Go.Argus
section
open Go Go.Abs Go.Proofs Go.Argus
namespace Go.Proofs.Tryz.K
set_option maxRecDepth 10000
set_option maxHeartbeats 1000000 in
theorem akJ{f:aA}(hF:wO f)(hw:∀ b∈f.blocks,b.fin.aE.length<=9){w:Int}:OCall prog 75 [.agg (aC f),I w] ((dC (gk f) f.blocks.length w).map B) f.blocks.length 4:=by
 have hb:=beh_in hF.ok
 change ∀ b,∀ t∈gk f b,_ at hb
 have Fy:=hF.ok.mK;have la:=hF.ok.pos;have aR:∀ a∈[D.agg (aC f),I w],Tr a:=.cons (.agg (gz f)) (.cons (.s _) .nil);refine uv mixed Ur (by rw[akK];rfl) aR (.map fun _=>.s _) ?_;rw[akL,akM];refine av ?_;refine ag ?_;refine ab (aJ (bp [(0,aC f,26)] eH (l:=[(1,I w),(2,.pt (aC f))]) eH) (av ?_));have cY:((f.blocks.length:Nat):Int).toNat=f.blocks.length:=Int.toNat_natCast _;refine aV ?_;refine ab (aJ (aK (l:=[(1,I w),(2,.pt (aC f)),(5,.rs 1 0 f.blocks.length)]) (ml:=[(1,.cells ((List.replicate f.blocks.length false).map B) 4)]) ⟨rfl,rfl,congrArg (fun k=>D.rs 1 0 k) cY,trivial⟩ ⟨?_,trivial⟩) (aD (an ?_)))
 .exact congrArg (fun c=>some (Row.cells c 4)) ((congrArg (fun k=>replD k [B false]) cY).trans (pj _ false))
 by_cases FE:w=0
 .have dI:(w==0)=true:=by simp[FE]
  have hr:dC (gk f) f.blocks.length w=List.replicate f.blocks.length false:=by unfold dC;rw[if_pos FE]
  rw[hr];refine ag ?_;refine ab (bC rfl (fun _=>?_) fun h=>oH);refine aD (an ?_);refine ag ?_;exact ab (dx (ax rfl ⟨1,rfl,rfl⟩))
 have dI:(w==0)=false:=by simp[FE]
 refine ag ?_;refine ab (bC rfl (fun h=>oH) fun _=>cx (av ?_));clear dI;obtain⟨xq,VV⟩:=Xp hb la FE;have pX:=yp hb la w;have tQ:=fun(o:List Bool)=> @ZC (gk f) f.blocks.length w hb la o;generalize dC (gk f) f.blocks.length w=RR at xq VV pX tQ ⊢;have hlz:((List.replicate f.blocks.length false).map B).length=f.blocks.length:=by simp
 refine aw ?_;refine ab (aJ (aK (l:=[(1,I w),(2,.pt (aC f)),(5,.rs 1 0 f.blocks.length)]) (ml:=[(1,.cells (((List.replicate f.blocks.length false).set 0 true).map B) 4)]) eH ⟨by rw[List.map_set];rfl,trivial⟩) (av ?_));refine SS ?_
 refine ab (bG (fun s=>Ghost prog s ⟨ay [(5,.rs 1 0 f.blocks.length)],a9 [(1,.cells (RR.map B) 4)],2⟩) (wl (α:=List Bool×Bool) (fun s=>⟨ay [(1,I w),(2,.pt (aC f)),(5,.rs 1 0 f.blocks.length),(6,B s.2)],a9 [(1,.cells (s.1.map B) 4)],2⟩)
  (fun s=>s.1.length=f.blocks.length/\s.1.getD 0 false=true/\(∀ i,s.1.getD i false=true->RR.getD i false=true)/\(s.2=false->∀ x,s.1.getD x false=true->∀ c∈gk f x,c≠w->s.1.getD c.toNat false=true)) (fun s=>2*s.1.count false+if s.2=true then 1 else 0) ((List.replicate f.blocks.length false).set 0 true,true)
  (aK eH eH) ⟨by simp,?_,fun i hi=>?_,fun h=>by cases h⟩ ?_) ?_)
 .rw[wa oP,if_pos rfl]
 .dsimp only at hi;rw[wa oP] at hi;by_cases e:i=0
  .rw[e];exact xq
  .rw[if_neg e,List.getD_eq_getElem?_getD,List.getElem?_replicate] at hi;split at hi<;>cases hi
 .rintro⟨U,t0⟩ ⟨kz,Ky,vq,z6⟩;dsimp only at kz Ky vq z6 ⊢;refine SS ?_;refine ab ⟨_,rfl,fun ht=>?_,fun ht=>?_⟩
  .refine ws ?_;refine SS ?_;refine ab (av ?_);refine SS ?_
   refine ab (cq (α:=Nat×List Bool×Bool) (fun s=>⟨ay [(1,I w),(2,.pt (aC f)),(5,.rs 1 0 f.blocks.length),(6,B s.2.2),(7,I s.1)],a9 [(1,.cells (s.2.1.map B) 4)],2⟩)
    (fun s=>s.1<=f.blocks.length/\s.2.1.length=f.blocks.length/\s.2.1.getD 0 false=true/\(∀ i,s.2.1.getD i false=true->RR.getD i false=true)/\(s.2.2=false->s.2.1=U/\∀ x,x<s.1->U.getD x false=true->∀ c∈gk f x,c≠w->U.getD c.toNat false=true)/\(s.2.2=true->s.2.1.count false<U.count false)) (fun s=>f.blocks.length - s.1) (0,U,false)
    (aK eH eH) ⟨Nat.zero_le _,kz,Ky,vq,fun _=>⟨rfl,fun x hx=>by dsimp only at hx;omega⟩,fun h=>by cases h⟩ ?_)
   rintro⟨k,o,t⟩ ⟨hk,hl,h0,C,hf,J⟩;dsimp only at hk hl h0 C hf J ⊢;have k8:(o.map B).length=f.blocks.length:=by simp[hl]
   refine aV ?_;refine ab ⟨_,rfl,fun h=>?_,fun h=>?_⟩
   .have ao:k<f.blocks.length:=by simpa using h
    have hx:f.blocks[k]? =some f.blocks[k]:=List.getElem?_eq_getElem ao;have bI:f.blocks[k]∈f.blocks:=List.getElem_mem _;have jy:=jy hx (by have:=hw _ bI;omega);rw[(hF.ed _ bI).2, <- Du hx] at jy;have gN:=hb k;have Us:=VV k
    have bf:o[k]? =some (o.getD k false):=by
     rw[List.getElem?_eq_getElem (show k<o.length by omega),getD_some (List.getElem?_eq_getElem (show k<o.length by omega))]
    have tN:∀ b,o.getD k false=b->o.getD k false=b:=fun _ h=>h
    have eT:(gk f k).length<=100000:=by
     rw[Du hx];have:=ur f.blocks[k].fin;have:=hw _ bI;omega
    have kd:=eV (f:=B) bf;refine aD (an ?_);generalize akN:gk f k=l at jy gN Us eT;cases rz:o.getD k false with
    |false=>
     rw[rz] at kd;refine aV ?_;refine ab (bC rfl (fun h=>qc (wC ?_)) fun h=>oH);refine aw ?_;refine ab (aH (k+1,o,t) (aK eH eH) ⟨by dsimp only;omega,hl,h0,C,fun h=>⟨(hf h).1,fun x hx X=>?_⟩,J⟩ oM);dsimp only at hx;by_cases e:x=k
     .subst e;rw[<- (hf h).1,rz] at X;cases X
     .exact(hf h).2 x oG X
    |true=>
    rw[rz] at kd;refine aV ?_;refine ab (bC rfl (fun h=>oH) fun h=>cx (an ?_));refine ag ?_;refine cl jy ?_;refine SS ?_;refine ab (av ?_);refine SS ?_
    refine ab (cq (α:=Nat×List Bool×Bool) (fun s=>⟨ay [(1,I w),(2,.pt (aC f)),(5,.rs 1 0 f.blocks.length),(6,B s.2.2),(7,I k),(8,az l),(9,I s.1)],a9 [(1,.cells (s.2.1.map B) 4)],2⟩)
     (fun s=>s.1<=l.length/\s.2.1.length=f.blocks.length/\s.2.1.getD 0 false=true/\s.2.1.getD k false=true/\(∀ i,s.2.1.getD i false=true->RR.getD i false=true)/\(s.2.2=false->s.2.1=U/\(∀ x,x<k->U.getD x false=true->∀ c∈gk f x,c≠w->U.getD c.toNat false=true)/\∀ c∈l.take s.1,c≠w->U.getD c.toNat false=true)/\(s.2.2=true->s.2.1.count false<U.count false)) (fun s=>l.length - s.1) (0,o,t)
     (aK eH eH) ⟨Nat.zero_le _,hl,h0,rz,C,fun h=>⟨(hf h).1,(hf h).2,fun c hc=>by simp at hc⟩,J⟩ ?_)
    clear hl h0 C hf J k8 bf tN kd rz;rintro⟨j,o,t⟩ ⟨hj,hl,h0,rz,C,hf,J⟩;dsimp only at hj hl h0 rz C hf J ⊢;have k8:(o.map B).length=f.blocks.length:=by simp[hl]
    refine aF ?_;refine ab ⟨_,rfl,fun h=>?_,fun h=>?_⟩
    .have bZ:j<l.length:=by simpa using h
     have hy:l[j]? =some l[j]:=List.getElem?_eq_getElem bZ;have gY:=gN _ (List.getElem_mem bZ);have vN:=Us (C k rz) _ (List.getElem_mem bZ);have kA:l.take (j+1)=l.take j++[l[j]]:=by rw[List.take_add_one,hy];rfl
     generalize l[j]=c at hy gY vN kA;obtain⟨i,rfl⟩:=Int.eq_ofNat_of_zero_le gY.1;rw[Int.toNat_natCast] at gY vN
     have ku:o[i]? =some (o.getD i false):=by
      rw[List.getElem?_eq_getElem (show i<o.length by omega),getD_some (List.getElem?_eq_getElem (show i<o.length by omega))]
     have kd:=eV (f:=B) ku;refine ws ?_;by_cases FF:(i:Int)=w
     .have lG:((i:Int) !=w)=false:=by simp[FF]
      refine cK ?_;(iterate 8 refine z fun _ _=>?_);refine SS ?_;refine ab (au rfl (fun h=>oH) fun h=>b8 ?_);refine aw ?_;refine ab (aH (j+1,o,t) (aK eH eH) ⟨by dsimp only;omega,hl,h0,rz,C,fun h=>⟨(hf h).1,(hf h).2.1,fun c hc aI=>?_⟩,J⟩ oM);dsimp only at hc;rw[kA] at hc;rcases List.mem_append.1 hc with hc|hc
      .exact(hf h).2.2 c hc aI
      .rw[List.mem_singleton.1 hc] at aI;exact absurd FF aI
     .have lG:((i:Int) !=w)=true:=by simp[FF]
      cases gu:o.getD i false with
      |true=>
       rw[gu] at kd;refine aL ?_;refine aw ?_;refine bm rfl rfl (jG rfl rfl rfl V.h V.h) (fun hc=>⟨ak,⟨V.h,by omega⟩⟩) ?_;refine bm rfl rfl (eX rfl rfl kd V.h) (fun hc=>⟨ak,(eY V.h V.h kd)⟩) ?_;refine ag ?_;refine ab (au rfl (fun h=>oH) fun h=>b8 ?_);refine aw ?_;refine ab (aH (j+1,o,t) (aK eH eH) ⟨by dsimp only;omega,hl,h0,rz,C,fun h=>⟨(hf h).1,(hf h).2.1,fun c hc aI=>?_⟩,J⟩ oM);dsimp only at hc;rw[kA] at hc;rcases List.mem_append.1 hc with hc|hc
       .exact(hf h).2.2 c hc aI
       .rw[List.mem_singleton.1 hc,Int.toNat_natCast, <- (hf h).1];exact gu
      |false=>
       rw[gu] at kd;have pU:=aaF (show i<o.length by omega) gu;have ss:∀ q,(o.set i true).getD q false=if q=i then true else o.getD q false:=fun q=>wa oG
       refine aL ?_;refine aw ?_;refine bm rfl rfl (jG rfl rfl rfl V.h V.h) (fun hc=>⟨ak,⟨V.h,by omega⟩⟩) ?_;refine bm rfl rfl (eX rfl rfl kd V.h) (fun hc=>⟨ak,(eY V.h V.h kd)⟩) ?_;refine ag ?_;refine ab (au rfl (fun h=>an ?_) fun h=>oH);refine cK ?_;refine ab (dJ ?_);refine SS ?_;refine ab ?_;refine aw ?_;refine ab (aH (j+1,o.set i true,true) (aK eH ⟨by rw[List.map_set];rfl,trivial⟩) ⟨by dsimp only;omega,by dsimp only;rw[List.length_set];exact hl,?_,?_,fun q hq=>?_,fun h=>oH,fun _=>?_⟩ oM)
       .dsimp only;rw[ss];split
        .rfl
        .exact h0
       .dsimp only;rw[ss];split
        .rfl
        .exact rz
       .dsimp only at hq;rw[ss] at hq;split at hq
        .rename_i e;rw[e];exact vN FF
        .exact C q hq
       .dsimp only;cases t with
        |false=>rw[(hf rfl).1] at pU ⊢;exact pU
        |true=>exact Nat.lt_trans pU (J rfl)
    .have aY:¬ j<l.length:=by simpa using h
     rw[List.take_of_length_le oG] at hf;show AOps _ _ _ _ _ _ _ _ _;refine aw ?_;refine ab (aH (k+1,o,t) (aK eH eH) ⟨by dsimp only;omega,hl,h0,C,fun h=>⟨(hf h).1,fun x hx X=>?_⟩,J⟩ oM);dsimp only at hx;by_cases e:x=k
     .rw[e,akN];exact(hf h).2.2
     .exact(hf h).2.1 x oG X
   .have aY:¬ k<f.blocks.length:=by simpa using h
    refine aH (o,t) (aK eH eH) ⟨hl,h0,C,fun h x X=>?_⟩ ?_
    .dsimp only at h X ⊢;have hh:=hf h;rw[hh.1] at X ⊢;by_cases hxk:x<k
     .exact hh.2 x hxk X
     .exfalso;rw[List.getD_eq_getElem?_getD,List.getElem?_eq_none oG] at X;cases X
    .dsimp only;rw[if_pos ht];cases t with
     |false=>rw[(hf rfl).1];simp
     |true=>have:=J rfl;simp;omega
  .have ho:=tQ U kz Ky (z6 ht) vq;rw[<- ho];exact aK eH eH
 .intro s hg;refine⟨_,hg,an ?_⟩;refine ag ?_;exact ab (ax rfl ⟨1,rfl,rfl⟩)
theorem FG{f:aA}(hF:wO f)(C:∀ b∈f.blocks,b.fin.aE.length<=9){w:Int}:PCall prog 75 [.agg (aC f),I w] (bW (dC (gk f) f.blocks.length w)):=by
 have hb:=beh_in hF.ok
 change ∀ b,∀ t∈gk f b,_ at hb
 have hl:=yp (w:=w) hb hF.ok.pos
 have h:=(akJ hF C (w:=w)).ab0 (fun d hd=>by obtain⟨x,_,rfl⟩:=List.mem_map.1 hd;rfl) (.sl fun d hd=>by
  obtain⟨x,_,rfl⟩:=List.mem_map.1 (List.mem_of_mem_take hd)
  exact .s _)
 rw[c4,List.take_of_length_le (by simp[hl])] at h;unfold bW;rw[hl];exact h
theorem Kz{a b:List Int}:PCall prog 64 [az a,az b] (B (decide (a=b))):=by
 have J:∀ x∈[az a,az b],Tr x:=.cons (cI _) (.cons (cI _) .nil);refine lj Jj.he J fun U=>?_;have hlen:=(U (az a) oS).sl.1;unfold maxLen at hlen;refine aX mixed Jj (by rw[akO];rfl) J (Tr.s _) ?_;rw[akP,akQ];refine ws ?_;refine SS ?_;refine ab (aD (an ?_));refine aV ?_;refine ab (bC rfl (fun h=>?_) fun h=>cx (aD (av ?_)))
 .refine aD (an ?_);refine SS ?_;refine ab (dx (ax (d:=B false) rfl ?_));have C:a≠b:=fun e=>by subst e;simp at h
  rw[decide_eq_false C]
 have eT:a.length=b.length:=by
  have:¬ ((a.length:Int)≠(b.length:Int)):=by simpa using h
  omega
 clear h;refine SS ?_
 refine ab (bG (fun s=>Ghost prog s ⟨ay [],fun _=>none,0⟩/\a=b) (cq (α:=Nat) (fun k=>⟨ay [(0,az a),(1,az b),(5,I k)],fun _=>none,0⟩)
  (fun k=>k<=a.length/\∀ j,j<k->a[j]? =b[j]?) (fun k=>a.length - k) 0 (ap eH) ⟨by omega,fun j hj=>by omega⟩ ?_) ?_)
 .rintro k ⟨hk,hinv⟩;refine aF ?_;refine ab ⟨_,rfl,fun h=>?_,fun h=>?_⟩
  .have ao:k<a.length:=by simpa using h
   have hx:a[k]? =some a[k]:=List.getElem?_eq_getElem ao;have hy:b[k]? =some b[k]:=List.getElem?_eq_getElem oG;generalize a[k]=x at hx;generalize b[k]=y at hy;refine dd ZD ?_;refine aL ?_;refine bj (by simp[apartT]) (au rfl (fun hp=>?_) fun hp=>?_)
   .refine ws ?_;refine SS ?_;refine ab (aU (b7 (aQ (ax (d:=B false) rfl ?_))))
    have C:a≠b:=fun e=>by
     subst e;rw[hx] at hy;cases hy;simp at hp
    rw[decide_eq_false C]
   .refine b8 ?_;refine aw ?_;refine ab (aH (k+1) (ap eH) ⟨by omega,fun j hj=>?_⟩ oG);by_cases e:j=k
    .subst e;rw[hx,hy];congr 1;simpa using hp
    .exact hinv j oG
  .have aY:¬ k<a.length:=by simpa using h
   refine⟨eW (l:=[]) trivial,List.ext_getElem? fun j=>?_⟩;by_cases hj:j<k
   .exact hinv j hj
   .rw[List.getElem?_eq_none oG,List.getElem?_eq_none oG]
 .rintro s ⟨hg,X⟩;refine⟨_,hg,an ?_⟩;refine SS ?_;refine ab (ax (d:=B true) rfl ?_);rw[decide_eq_true X]
theorem KA{a b:List Int}:PCall prog 22 [az a,az b] (B (decide (a=b))):=by
 have Kz:=Kz (a:=a) (b:=b);refine aX mixed Ut (by rw[akR];rfl) (.cons (cI _) (.cons (cI _) .nil)) (Tr.s _) ?_;rw[akS,akT];refine ws ?_;refine SS ?_;refine er ?_;refine ag ?_;refine cl Kz ?_;refine SS ?_;exact ab (ax rfl rfl)
end Go.Proofs.Tryz.K
namespace Go.Argus
theorem KP{f:aA}(h:fN f=0):hC f=true:=by
 unfold fN at h;split at h
 .assumption
 .cases h
theorem NB{l:List Bool}{i:Nat}(h:i<l.length):l[i]? =some (l.getD i false):=by
 rw[List.getElem?_eq_getElem h,getD_some (List.getElem?_eq_getElem h)]
theorem Ys{f:aA}(h:pN f=true):∀ b∈f.blocks,b.fin.aE.length<=9:=fun b hb=>by
 unfold pN at h;rw[Bool.and_eq_true,Bool.and_eq_true] at h;have:=List.all_eq_true.1 h.2.2 b hb;rw[Bool.and_eq_true,Bool.not_eq_true'] at this;have:=this.1;unfold qx at this;simp only[Bool.or_eq_false_iff,decide_eq_false_iff_not] at this;omega
theorem Yt{f:aA}(h:hC f=true){k:Nat}(hk:k<f.blocks.length):(jI f.blocks)[k]? =some (nr f k):=by
 have he:=KZ h;rw[yF hk, <- Gl he];simp[jI,hk]
end Go.Argus
end
namespace Go.Argus
open Go Go.Abs
open Go.Proofs.Tryz.K (nextR lg_ok beh_in ord_in)
def yT(x:End)(t:Int):Bool:=decide (gH t (cE x)=1)&&(x.to==t&&(x.kind !=3&&x.kind !=4))
def xV(x:End)(t r:Int):Bool:=dp x==r&&yT x t
def uj(y:bt)(A:List Int)(a r:Int):Bool:=(dH y).any fun z=>(List.range A.length).any fun k=>A.getD k 0==a&&z.args.getD k 0==r
def sc(r:Int)(s:Bool)(l:List aW):Bool:=l.foldr (fun y s=>(if bM y==r then false else s)||iL (bK y) r) s
def qa(f:aA)(M:Nat->Nat->Bool)(b r:Nat)(c:Int):Bool:= !(xV (bY f b).fin c r)&&(M c.toNat r||uj (bY f c.toNat) (nr f c.toNat) b r)
def lV(f:aA)(M:Nat->Nat->Bool)(b r:Nat):Bool:=iL (bJ (bY f b).fin) r||(gk f b).any (qa f M b r)
def kC(f:aA)(M:Nat->Nat->Bool)(b r:Nat):Bool:=sc r (lV f M b r) (bY f b).ins
def gI(M:Nat->Nat->Bool)(b r:Nat)(v:Bool):Nat->Nat->Bool:=fun x y=>if x=b/\y=r then v else M x y
theorem aaS{l:List Int}{a:Int}(h:a∈l):∃ p:Nat,iJ (fun y=>a==y) l=p/\l[p]? =some a:=by
 unfold iJ;cases e:l.findIdx? (fun y=>a==y) with
 |none=>rw[List.findIdx?_eq_none_iff] at e;have:=e a h;simp at this
 |some p=>
  obtain⟨h1,h2,_⟩:=List.findIdx?_eq_some_iff_getElem.1 e;have:a=l[p]:=by simpa using h2
  exact⟨p,rfl,by rw[List.getElem?_eq_getElem h1, <- this]⟩
theorem Ln{r:Nat}{s:Bool}:∀ {l:List aW},sc r s l=true↔og r (s=true) l
 |[]=>Iff.rfl
 |y::l=>by
  have ih:=Ln (r:=r) (s:=s) (l:=l);unfold sc at ih ⊢;rw[List.foldr_cons,Bool.or_eq_true,nJ];unfold og;rw[<- ih];by_cases C:(bM y==(r:Int))=true
  .rw[if_pos C];have:bM y=r:=by simpa using C
   constructor
   .rintro(h|h)
    .cases h
    .exact .inl h
   .rintro(h|h)
    .exact .inr h
    .exact absurd this h.1
  .rw[if_neg C];have:bM y≠r:=by simpa using C
   constructor
   .rintro(h|h)
    .exact .inr ⟨this,h⟩
    .exact .inl h
   .rintro(h|h)
    .exact .inr h
    .exact .inl h.2
section
variable{f:aA}(hF:wO f)
include hF
theorem ZX(c:Nat):(gh f c).Pairwise (·<·):=(C0 (fun b hb t ht=>by
 obtain⟨k,hk⟩:=List.getElem?_of_mem hb;have:=beh_in hF.ok k t (by rw[rJ hk];exact ht)
 exact this.1) _ _).1
omit hF in
theorem abD{b r:Nat}{c:Int}(hc:c∈gk f b):xV (bY f b).fin c r=(fG (bY f b).fin c==(r:Int)):=by
 have hc:c∈bq (bw f) b:=hc
 have hb:b<f.blocks.length:=by
  rcases Nat.lt_or_ge b f.blocks.length with g|g
  .exact g
  .rw[Ah g] at hc;simp at hc
 have hx:=List.getElem?_eq_getElem hb;rw[rJ hx] at hc;rw[rK hx];generalize f.blocks[b]=x at hc
 have hk:x.fin.kind≠3/\x.fin.kind≠4:=by
  have:¬ aG [3,4] x.fin.kind=true:=fun h=>by
   unfold nextR cz at hc;rw[if_pos h,Ab] at hc;simp at hc
  simp only[aG,List.any_cons,List.any_nil,Bool.or_false,Bool.or_eq_true,beq_iff_eq,not_or] at this;exact⟨fun e=>this.1 e,fun e=>this.2 e⟩
 have e:yT x.fin c=wE x.fin c:=by
  unfold yT wE;by_cases h1:gH c (cE x.fin)=1
  .simp[h1,hk.1,hk.2]
  .have:¬ ((gH c (cE x.fin):Int)==1)=true:=by simp;omega
   rw[if_neg this,decide_eq_false h1];rfl
 unfold xV fG;rw[e];by_cases ha:wE x.fin c=true
 .rw[if_pos ha,ha,Bool.and_true]
 .have ha:wE x.fin c=false:=by simpa using ha
  rw[ha,if_neg oS,Bool.and_false];exact(beq_eq_false_iff_ne.2 oG).symm
theorem abE{b:Nat}{c r:Int}(hc:c∈gk f b):uj (bY f c.toNat) (nr f c.toNat) b r=true↔r∈jd (gh f c.toNat) b (bY f c.toNat):=by
 have h:=Uc hF.ok;have X:=h.to b c hc;have hx:=List.getElem?_eq_getElem X.2
 have hm:(b:Int)∈gh f c.toNat:=by
  have:(b:Int)∈nr f c.toNat:=(h.fro _ _).2 ⟨by omega,?_,?_⟩
  .rw[yF X.2] at this;exact this
  .rw[Int.toNat_natCast];rcases Nat.lt_or_ge b f.blocks.length with g|g
   .exact g
   .have hc:c∈bq (bw f) b:=hc;rw[Ah g] at hc;simp at hc
  .rw[Int.toNat_natCast,Int.toNat_of_nonneg X.1];exact hc
 have zw:=ZX hF c.toNat;have eA:nr f c.toNat=gh f c.toNat:=yF X.2;rw[eA]
 have oR:∀ z∈dH (bY f c.toNat),z.args.length=(gh f c.toNat).length:=fun z C=>by
  rw[rK hx] at C;exact(hF.ok.EF hx C).1
 obtain⟨p,hp,U⟩:=aaS hm;have J:=(List.getElem?_eq_some_iff.1 U).1;generalize gh f c.toNat=A at zw oR hp J U;unfold uj jd;rw[hp,List.any_eq_true,List.mem_map]
 have key:∀ k,k<A.length->(A.getD k 0=(b:Int)↔k=p):=fun k hk=>by
  rw[List.getD_eq_getElem?_getD,List.getElem?_eq_getElem hk];show A[k]=_↔_
  have hq:A[p]=(b:Int):=by
   rw[List.getElem?_eq_getElem J] at U;exact Option.some.inj U
  constructor
  .intro e;rw[List.pairwise_iff_getElem] at zw;rcases Nat.lt_trichotomy k p with g|g|g
   .have:=zw k p hk J g;omega
   .exact g
   .have:=zw p k J hk g;omega
  .rintro rfl;exact hq
 constructor
 .rintro⟨z,C,hk⟩;obtain⟨k,hk,e⟩:=List.any_eq_true.1 hk;rw[List.mem_range] at hk;rw[Bool.and_eq_true,beq_iff_eq,beq_iff_eq] at e;have:=(key k hk).1 e.1;subst this;exact⟨z,C,by rw[Int.toNat_natCast];exact e.2⟩
 .rintro⟨z,C,e⟩;rw[Int.toNat_natCast] at e;refine⟨z,C,List.any_eq_true.2 ⟨p,List.mem_range.2 J,?_⟩⟩;rw[Bool.and_eq_true,beq_iff_eq,beq_iff_eq];exact⟨(key p J).2 rfl,e⟩
theorem OV{M:Nat->Nat->Bool}{b r:Nat}{c:Int}(hc:c∈gk f b):qa f M b r c=true↔za (bP f) (fun c=>M c r=true) b r c:=by
 unfold qa za;rw[Bool.and_eq_true,Bool.or_eq_true,Bool.not_eq_true',abD hc,abE hF hc,beq_eq_false_iff_ne];exact and_congr_right fun _=>or_comm
theorem A8{M:Nat->Nat->Bool}{b r:Nat}:lV f M b r=true↔oh (bP f) (fun c=>M c r=true) b r:=by
 unfold lV oh;rw[Bool.or_eq_true,nJ,List.any_eq_true];refine or_congr_right ⟨fun⟨c,hc,h⟩=>⟨c,hc,(OV hF hc).1 h⟩,fun⟨c,hc,h⟩=>⟨c,hc,(OV hF hc).2 h⟩⟩
theorem DM{M:Nat->Nat->Bool}{b r:Nat}:kC f M b r=true↔oi (bP f) (fun c=>M c r=true) b r:=by
 unfold kC oi;rw[Ln];exact⟨yq (A8 hF).1,yq (A8 hF).2⟩
structure rC(f:aA)(M O:Nat->Nat->Bool):Prop where
 mi:∀ b r,M b r=true->pQ f b=true/\sS f r b/\kC f M b r=true
 mo:∀ b r,O b r=true->pQ f b=true/\lV f M b r=true
omit hF in
theorem Yx:rC f (fun _ _=>false) (fun _ _=>false):=⟨fun _ _ h=>(Bool.noConfusion h),fun _ _ h=>(Bool.noConfusion h)⟩
theorem ZH{M O:Nat->Nat->Bool}(h:rC f M O){b r:Nat}(hb:pQ f b=true):
 rC f (gI M b r (kC f M b r)) (gI O b r (lV f M b r))/\(M b r=true->kC f M b r=true)/\(O b r=true->lV f M b r=true):=by
 have C:M b r=true->kC f M b r=true:=fun e=>(h.mi b r e).2.2;have U:O b r=true->lV f M b r=true:=fun e=>(h.mo b r e).2
 have xm:∀ c q,M c q=true->gI M b r (kC f M b r) c q=true:=fun c q e=>by
  unfold gI;split
  .rename_i hc;obtain⟨rfl,rfl⟩:=hc;exact C e
  .exact e
 have mi:∀ c q,kC f M c q=true->kC f (gI M b r (kC f M b r)) c q=true:=fun c q e=>(DM hF).2 (An (fun c=>xm c q) ((DM hF).1 e));have mo:∀ c q,lV f M c q=true->lV f (gI M b r (kC f M b r)) c q=true:=fun c q e=>(A8 hF).2 (yr (fun c=>xm c q) ((A8 hF).1 e));have J:kC f M b r=true->sS f r b:=fun e=>Me hF.ok r b (An (fun c hc=>(h.mi c r hc).2.1) ((DM hF).1 e));refine⟨⟨fun c q e=>?_,fun c q e=>?_⟩,C,U⟩
 .have X:=e;unfold gI at e;split at e
  .rename_i hc;obtain⟨rfl,rfl⟩:=hc;exact⟨hb,J e,mi _ _ e⟩
  .obtain⟨a1,a2,a3⟩:=h.mi c q e;exact⟨a1,a2,mi _ _ a3⟩
 .unfold gI at e;split at e
  .rename_i hc;obtain⟨rfl,rfl⟩:=hc;exact⟨hb,mo _ _ e⟩
  .obtain⟨a1,a2⟩:=h.mo c q e;exact⟨a1,mo _ _ a2⟩
theorem aaI{M O:Nat->Nat->Bool}(h:rC f M O){R:Nat}(hR:R=f.aj.length)(hc:∀ b r,pQ f b=true->r<R->kC f M b r=M b r/\lV f M b r=O b r):
 (∀ b r,r<R->(M b r=true↔a7 ((hZ (bP f) f.blocks.length (ew f)).aN.getD b []) r=true))/\∀ b r,r<R->(O b r=true↔a7 ((hZ (bP f) f.blocks.length (ew f)).out.getD b []) r=true):=by
 have J:=hF.ok
 have X:∀ b r,r<R->(M b r=true↔a7 ((hZ (bP f) f.blocks.length (ew f)).aN.getD b []) r=true):=fun b r hr=>by
  rw[aaT J r b];show _↔pQ f b=true/\_;constructor
  .exact fun e=>⟨(h.mi b r e).1,(h.mi b r e).2.1⟩
  .rintro⟨C,hl⟩
   have U:∀ b,pQ f b=true->oi (bP f) (fun c=>M c r=true) b r->M b r=true:=fun b C hb=>by
    rw[<- (hc b r C hr).1];exact(DM hF).2 hb
   clear h
   induction hl with
   |here h1=>exact U _ C (yN J (.inl h1))
   |read h1 h2 h3=>exact U _ C (yN J (.inr ⟨h1,_,h2,.inl h3⟩))
   |@on b c h1 h2 h3 _ ih=>
    have:=KQ (beh_in J) J.pos C c h2;exact U _ C (yN J (.inr ⟨h1,c,h2,.inr ⟨h3,ih this⟩⟩))
 refine⟨X,fun b r hr=>?_⟩;obtain⟨hI,_,ho⟩:=Ai (lg_ok J) (ord_in J)
 have gE:∀ c:Nat,(c:Int)∈ew f↔pQ f c=true:=fun c=>by
  rw[M4 J];simp[pQ]
 by_cases C:pQ f b=true
 .rw[ho b r ((gE b).2 C), <- (hc b r C hr).2,A8 hF];exact⟨yr fun c e=>(X c r hr).1 e,yr fun c e=>(X c r hr).2 e⟩
 .constructor
  .intro e;exact absurd (h.mo b r e).1 C
  .intro e;exact absurd ((gE b).1 (hI.so b r e)) C
end
def wP(R:Nat)(L:Nat->Bool):List Int:=((List.range R).filter L).map fun(k:Nat)=>(k:Int)
theorem L1{f:aA}(U:iE f){ws:List (List Int)}(hl:ws.length=f.blocks.length)(J:∀ w∈ws,cM w){R:Nat}{M:Nat->Nat->Bool}(h:∀ b r,r<R->(M b r=true↔a7 (ws.getD b []) r=true)):
 (List.range f.blocks.length).map (fun b=>wP R (M b))=ws.map fun w=>dZ w R:=by
 refine List.ext_getElem? fun i=>?_;rcases Nat.lt_or_ge i f.blocks.length with g|g
 .have hi:i<ws.length:=by omega
  rw[List.getElem?_map,List.getElem?_range g,List.getElem?_map,List.getElem?_eq_getElem hi];show some (List.map _ (List.filter (M i) _))=some (List.map _ (List.filter (gW ws[i]) _));congr 2;refine List.filter_congr fun r hr=>?_;have hr:=List.mem_range.1 hr;have C:=(J _ (List.getElem_mem hi)).2;have:=h i r hr;rw[getD_some (List.getElem?_eq_getElem hi)] at this;rw[Dw C,Bool.eq_iff_iff];exact this
 .rw[List.getElem?_eq_none (by simpa using g),List.getElem?_eq_none oP]
end Go.Argus
namespace Go.Proofs.Tryz.K
open Go.Abs
theorem ZF:drawInfo (Z nR 6)=some []:=kr
theorem akW:nR=(S1 (G1 nR 0) (S1 (S1 (G1 nR 1) (C1 10 (S1 (G1 nR 2) .ret) K1)) (S1 (S1 (G1 nR 3) (B1 0 (.loop (S1 (S1 (G1 nR 4) (C1 14 K1 (X1 0))) (S1 (B1 1 (S1 (G2 nR 6) (C1 26 (S1 (G1 nR 7) .ret) K1))) (G1 nR 5)))))) (S1 (G1 nR 8) .ret)))):=kr
theorem sk4:te=(S1 (G1 te 0) (S1 (S1 (G1 te 1) (C1 11 (S1 (G1 te 2) .ret) K1)) (S1 (G1 te 3) (S1 (G1 te 4) (S1 (G1 te 5) .ret))))):=kr
theorem aln:mf=(S1 (G1 mf 0) (S1 (G1 mf 1) (S1 (S1 (G1 mf 2) (C1 13 (S1 (G1 mf 3) .ret) K1)) (S1 (G1 mf 4) (S1 (G1 mf 5) (S1 (S1 (G1 mf 6) (B1 0 (.loop (S1 (S1 (G1 mf 7) (C1 21 K1 (X1 0))) (S1 (B1 1 (S1 (G1 mf 9) (G1 mf 10))) (G1 mf 8)))))) (S1 (G1 mf 11) .ret))))))):=kr
theorem ak0:r6=(S1 (G1 r6 0) (S1 (S1 (G1 r6 1) (B1 0 (.loop (S1 (S1 (G1 r6 2) (C1 9 K1 (X1 0))) (S1 (B1 1 (S1 (G1 r6 4) (C1 17 (S1 (G1 r6 5) .ret) K1))) (G1 r6 3)))))) (S1 (G1 r6 6) .ret))):=kr
theorem ML:drawInfo (Z c9 6)=some []:=kr
theorem MM:drawInfo (Z c9 7)=some []:=kr
theorem Yy:drawInfo (Z c9 24)=some []:=kr
theorem ald:c9=(S1 (G1 c9 0) (S1 (G1 c9 1) (S1 (G1 c9 2) (S1 (S1 (G1 c9 3) (B1 0 (.loop (S1 (S1 (G1 c9 4) (C1 22 K1 (X1 0))) (S1 (B1 1 (S1 (G2 c9 6) (G2 c9 7))) (G1 c9 5)))))) (S1 (G1 c9 8) (S1 (G1 c9 9) (S1 (S1 (G1 c9 10) (B1 2 (.loop (S1 (S1 (G1 c9 11) (C1 47 K1 (X1 2))) (B1 3 (S1 (G1 c9 12) (S1 (G1 c9 13) (B1 4 (.loop (S1 (S1 (G1 c9 14) (C1 50 K1 (X1 4))) (S1 (B1 5 (S1 (G1 c9 16) (B1 6 (.loop (S1 (S1 (G1 c9 17) (C1 63 K1 (X1 6))) (S1 (B1 7 (S1 (G1 c9 19) (S1 (G1 c9 20) (S1 (S1 (G1 c9 21) (B1 8 (.loop (S1 (S1 (G1 c9 22) (C1 81 K1 (X1 8))) (S1 (B1 9 (G2 c9 24)) (G1 c9 23)))))) (S1 (G1 c9 25) (S1 (S1 (G1 c9 26) (B1 10 (.loop (S1 (S1 (G1 c9 27) (C1 130 K1 (X1 10))) (S1 (B1 11 (S1 (G1 c9 29) (S1 (S1 (G1 c9 30) (C1 145 (G1 c9 31) K1)) (G1 c9 32)))) (G1 c9 28)))))) (S1 (G1 c9 33) (S1 (G1 c9 34) (G1 c9 35))))))))) (G1 c9 18))))))) (G1 c9 15)))))))))))) (S1 (G1 c9 36) .ret)))))))):=kr
theorem ala:qz=(S1 (G1 qz 0) (S1 (G1 qz 1) (S1 (S1 (G1 qz 2) (B1 0 (.loop (S1 (S1 (G1 qz 3) (C1 8 K1 (X1 0))) (S1 (B1 1 (S1 (G1 qz 5) (C1 14 (G1 qz 6) K1))) (G1 qz 4)))))) (S1 (G1 qz 7) .ret)))):=kr
theorem ak5:yV=(S1 (G1 yV 0) (S1 (G1 yV 1) (S1 (G1 yV 2) .ret))):=kr
theorem ak8:nT=(S1 (G1 nT 0) (S1 (S1 (G1 nT 1) (B1 0 (.loop (S1 (S1 (G1 nT 2) (C1 17 K1 (X1 0))) (S1 (B1 1 (S1 (G1 nT 4) (B1 2 (.loop (S1 (S1 (G1 nT 5) (C1 26 K1 (X1 2))) (S1 (B1 3 (S1 (G1 nT 7) (C1 54 (S1 (G1 nT 8) .ret) K1))) (G1 nT 6))))))) (G1 nT 3)))))) (S1 (G1 nT 9) .ret))):=kr
theorem ahl:pv=(S1 (G1 pv 0) (S1 (G1 pv 1) (S1 (G1 pv 2) (S1 (S1 (G1 pv 3) (B1 0 (.loop (S1 (S1 (G1 pv 4) (C1 13 K1 (X1 0))) (S1 (B1 1 (S1 (G1 pv 6) (C1 21 (G1 pv 7) K1))) (G1 pv 5)))))) (S1 (G1 pv 8) .ret))))):=kr
theorem ahi:uz=(S1 (G1 uz 0) (S1 (G1 uz 1) (S1 (B1 0 (.loop (S1 (S1 (G1 uz 2) (C1 27 K1 (X1 0))) (B1 1 (G1 uz 3))))) (S1 (G1 uz 4) .ret)))):=kr
end Go.Proofs.Tryz.K
section
open Go Go.Abs Go.Proofs Go.Argus
namespace Go.Abs
theorem fF.nil{m:Mem}{nx j:Nat}{e et:TypeId}{ρ:Nat->Nat}{L:Nat->List D}(hm:m j=some (.cells [] e))(hj:j<nx):fF m nx j 0 e et ρ L:=
 ⟨hm,hj,fun _ h=>absurd h (Nat.not_lt_zero _),fun _ h=>absurd h (Nat.not_lt_zero _),fun _ h=>absurd h (Nat.not_lt_zero _),fun _ _ h=>absurd h (Nat.not_lt_zero _)⟩
theorem fF.put{m:Mem}{nx j n i:Nat}{e et:TypeId}{ρ:Nat->Nat}{L:Nat->List D}{l:List D}(h:fF m nx j n e et ρ L)(hi:i<n)(hl:l.length=(L i).length)(U:L i≠[]):fF (up m (ρ i) (some (.cells l et))) nx j n e et ρ (up L i l):=by
 have kz:l≠[]:=fun e=>by
  subst e;exact U (List.eq_nil_of_length_eq_zero hl.symm)
 have J:∀ k,up L i l k≠[]->L k≠[]:=fun k hk=>by
  by_cases e:k=i
  .subst e;exact U
  .rwa[up_ne _ _ e] at hk
 refine⟨?_,h.jx,fun k hk C=>?_,fun k hk C=>h.lt k hk (J k C),fun k hk C=>h.ne k hk (J k C),fun a b ha hb zR zS=>h.inj a b ha hb (J a zR) (J b zS)⟩
 .rw[up_ne _ _ (fun e=>h.ne i hi U e.symm),h.row];congr 2;refine List.map_congr_left fun k hk=>?_;by_cases e:k=i
  .subst e;rw[up_same,pE kz,pE U,hl]
  .rw[up_ne _ _ e]
 .by_cases e:k=i
  .subst e;rw[up_same,up_same]
  .rw[up_ne _ _ e,up_ne _ _ fun X=>e (h.inj k i hk hi (J k C) U X)];exact h.jr k hk (J k C)
theorem ZE{P:Program}{f:FuncId}{args args':List D}{r:D}(hc:PCall P f args' r)(hl:args'.length=args.length)(h:∀ (k:Nat) (d d':D),args[k]? =some d->args'[k]? =some d'->Wk d d')(ht:∀ a∈args,Tr a):PCall P f args r:=by
 refine⟨hc.1,ht,fun F w vs hF hR=>hc.2.2 F w vs hF ⟨by rw[hR.1,hl],fun k d' v C hv=>?_⟩⟩;have hk:k<args.length:=by have:=(List.getElem?_eq_some_iff.1 C).1;omega
 exact h k args[k] d' (List.getElem?_eq_getElem hk) C F _ w v (hR.2 k args[k] v (List.getElem?_eq_getElem hk) hv)
structure kD(m:Mem)(nx j n w:Nat)(e et:TypeId)(ρ:Nat->Nat)(L:Nat->List D):Prop where
 row:m j=some (.cells ((List.range n).map fun i=>D.rs (ρ i) 0 w) e)
 jx:j<nx
 jr:∀ i,i<n->m (ρ i)=some (.cells (L i) et)
 len:∀ i,i<n->(L i).length=w
 lt:∀ i,i<n->ρ i<nx
 ne:∀ i,i<n->ρ i≠j
 inj:∀ a b,a<n->b<n->ρ a=ρ b->a=b
section
variable{m m':Mem}{nx nx' j n w:Nat}{e et:TypeId}{ρ:Nat->Nat}{L:Nat->List D}
theorem kD.ext(h:kD m nx j n w e et ρ L)(hm:∀ q,(q=j\/∃ i,i<n/\ρ i=q)->m' q=m q)(hn:nx<=nx'):kD m' nx' j n w e et ρ L:=
 ⟨(hm j (.inl rfl)).trans h.row,Nat.lt_of_lt_of_le h.jx hn,fun i hi=>(hm _ (.inr ⟨i,hi,rfl⟩)).trans (h.jr i hi),h.len,fun i hi=>Nat.lt_of_lt_of_le (h.lt i hi) hn,h.ne,h.inj⟩
theorem kD.one{r:Nat}{l:List D}(hr:m j=some (.cells [.rs r 0 w] e))(hl:m r=some (.cells l et))(U:l.length=w)(hj:j<nx)(C:r<nx)(J:r≠j):kD m nx j 1 w e et (fun _=>r) (fun _=>l):=
 ⟨hr,hj,fun _ _=>hl,fun _ _=>U,fun _ _=>C,fun _ _=>J,fun a b ha hb _=>by omega⟩
theorem kD.push{j' r:Nat}{l:List D}(h:kD m nx j n w e et ρ L)(hw:l.length=w)(hr:nx<=r)(fB:r<nx')(hj:nx<=j')(mH:j'<nx')(aI:r≠j')
 (aq:m' j'=some (.cells ((List.range n).map (fun i=>D.rs (ρ i) 0 w)++[.rs r 0 w]) e)) (X:m' r=some (.cells l et)) (hk:∀ i,i<n->m' (ρ i)=m (ρ i)):kD m' nx' j' (n+1) w e et (up ρ n r) (up L n l):=by
 refine⟨?_,mH,fun i hi=>?_,fun i hi=>?_,fun i hi=>?_,fun i hi=>?_,fun a b ha hb J=>?_⟩
 .rw[aq,List.range_succ,List.map_append];congr 3
  .exact List.map_congr_left fun i hi=>by rw[up_ne _ _ (by have:=List.mem_range.1 hi;omega)]
  .show [_]=[D.rs (up ρ n r n) 0 w]
   rw[up_same]
 .by_cases e:i=n
  .subst e;rw[up_same,up_same];exact X
  .rw[up_ne _ _ e,up_ne _ _ e,hk i oG];exact h.jr i oG
 .by_cases e:i=n
  .subst e;rw[up_same];exact hw
  .rw[up_ne _ _ e];exact h.len i oG
 .by_cases e:i=n
  .subst e;rw[up_same];exact fB
  .rw[up_ne _ _ e];have:=h.lt i oG;omega
 .by_cases e:i=n
  .subst e;rw[up_same];exact aI
  .rw[up_ne _ _ e];have:=h.lt i oG;omega
 .by_cases U:a=n
  .by_cases C:b=n
   .omega
   .subst U;rw[up_same,up_ne _ _ C] at J;have:=h.lt b oG;omega
  .by_cases C:b=n
   .subst C;rw[up_same,up_ne _ _ U] at J;have:=h.lt a oG;omega
   .rw[up_ne _ _ U,up_ne _ _ C] at J;exact h.inj a b oG oG J
theorem kD.put{i:Nat}{l:List D}(h:kD m nx j n w e et ρ L)(hi:i<n)(hl:l.length=w):kD (up m (ρ i) (some (.cells l et))) nx j n w e et ρ (up L i l):=by
 refine⟨?_,h.jx,fun k hk=>?_,fun k hk=>?_,h.lt,h.ne,h.inj⟩
 .rw[up_ne _ _ (fun e=>h.ne i hi e.symm)];exact h.row
 .by_cases e:k=i
  .subst e;rw[up_same,up_same]
  .rw[up_ne _ _ fun C=>e (h.inj k i hk hi C),up_ne _ _ e];exact h.jr k hk
 .by_cases e:k=i
  .subst e;rw[up_same];exact hl
  .rw[up_ne _ _ e];exact h.len k hk
theorem GS{i:Nat}(h:i<n):∃ cs,((List.range n).map fun i=>D.rs (ρ i) 0 w).drop i=D.rs (ρ i) 0 w::cs:=⟨_,eV (f:=fun i=>D.rs (ρ i) 0 w) (by simp[h])⟩
end
section
variable{P:Program}
open Classical in
noncomputable def kX(mm:Mem)(j n w k:Nat)(e et:TypeId)(ρ:Nat->Nat)(L:Nat->List D):Mem:=fun q=>
 if q=j then some (.cells ((List.range n).map fun i=>if i<k then .sl (L i) w else .rs (ρ i) 0 w) e)
 else if h:∃ i,k<=i/\i<n/\ρ i=q then some (.cells (L (Classical.choose h)) et)
 else mm q
theorem ZY{m:Mem}{nx j n w k:Nat}{e et:TypeId}{ρ:Nat->Nat}{L:Nat->List D}{l:List (Nat×D)}{mm:Mem}{X:Nat->Prop}(h:kD m nx j n w e et ρ L)(hs:∀ i,np (L i))(J:P.cellsOf et=1)
 (C:∀ i,i<n->X (ρ i)) (hl:∀ x∈l,jP X x.2) (oI:∀ q r,mm q=some r->iB X r/\¬ X q) (hk:k<n):
 Ghost P ⟨ay l,kX mm j n w k e et ρ L,nx⟩ ⟨ay l,kX mm j n w (k+1) e et ρ L,nx⟩:=by
 have Co:ρ k≠j:=h.ne k hk
 have aq:kX mm j n w k e et ρ L (ρ k)=some (.cells (L k) et):=by
  have hc:∃ i,k<=i/\i<n/\ρ i=ρ k:=⟨k,Nat.le_refl _,hk,rfl⟩
  simp only[kX,if_neg Co,dif_pos hc];have e1:=Classical.choose_spec hc;have:Classical.choose hc=k:=h.inj _ _ e1.2.1 hk e1.2.2;rw[this]
 have hg:=Ghost.freeze (P:=P) (ay l) (kX mm j n w k e et ρ L) nx (ρ k) (L k) et aq;have e1:(fun t=>sub (fz0 (ρ k) (L k) (P.cellsOf et)) (ay l t))=ay l:=funext fun t=>Lg hl t _ _ _ (C k hk)
 have e2:(fun q=>if q=ρ k then none else(kX mm j n w k e et ρ L q).map (Row.sub (fz0 (ρ k) (L k) (P.cellsOf et))))=kX mm j n w (k+1) e et ρ L:=by
  funext q;by_cases U:q=ρ k
  .subst U;rw[if_pos rfl]
   have hc:¬ ∃ i,k+1<=i/\i<n/\ρ i=ρ k:=by
    rintro⟨i,g1,g2,g4⟩;have:=h.inj _ _ g2 hk g4;omega
   simp only[kX,if_neg Co,dif_neg hc];cases hm:mm (ρ k) with
   |none=>rfl
   |some r=>exact absurd (C k hk) (oI _ r hm).2
  .rw[if_neg U];by_cases oQ:q=j
   .subst oQ;simp only[kX,if_true,Option.map_some];congr 1;show Row.cells (List.map _ (List.map _ _)) e=_;rw[List.map_map];congr 1;refine List.map_congr_left fun i hi=>?_;have bl:i<n:=by simpa using hi
    simp only[Function.comp_apply];by_cases h1:i<k
    .rw[if_pos h1,if_pos oG];rfl
    .rw[if_neg h1];by_cases h2:i=k
     .subst h2;rw[if_pos oG,J];exact gv (by have:=h.len i hk;omega)
     .rw[if_neg oG];exact qe fun e=>h2 (h.inj _ _ bl hk e)
   .simp only[kX,if_neg oQ]
    have this:(∃ i,k+1<=i/\i<n/\ρ i=q)↔(∃ i,k<=i/\i<n/\ρ i=q):=by
     constructor
     .rintro⟨i,h1,h2⟩;exact⟨i,by omega,h2⟩
     .rintro⟨i,h1,h2,h4⟩
      exact⟨i,by
       rcases Nat.lt_or_ge k i with g|g
       .exact g
       .have:i=k:=by omega
        subst this;exact absurd h4.symm U,h2,h4⟩
    by_cases hc:∃ i,k<=i/\i<n/\ρ i=q
    .rw[dif_pos (this.2 hc),dif_pos hc];have e1:=Classical.choose_spec hc;have e2:=Classical.choose_spec (this.2 hc);have:Classical.choose (this.2 hc)=Classical.choose hc:=h.inj _ _ e2.2.1 e1.2.1 (e2.2.2.trans e1.2.2.symm);rw[this];exact congrArg some (iB.BK (X:=X) (hs _) _ _ _ (C k hk))
    .rw[dif_neg (fun h=>hc (this.1 h)),dif_neg hc];cases hm:mm q with
     |none=>rfl
     |some r=>exact congrArg some ((oI q r hm).1 _ _ _ (C k hk))
 rw[e1,e2] at hg;exact hg
theorem Mf{env:Env}{m:Mem}{nx j n w:Nat}{e et:TypeId}{ρ:Nat->Nat}{L:Nat->List D}{l:List (Nat×D)}{mm:Mem}(h:kD m nx j n w e et ρ L)(J:∀ i,np (L i))(C:P.cellsOf et=1)
 (he:iA l env) (hl:∀ x∈l,jP (fun q=>∃ i,i<n/\ρ i=q) x.2) (hm:∀ q,mm q=m q\/mm q=none) (U:∀ q r,mm q=some r->iB (fun q=>∃ i,i<n/\ρ i=q) r/\¬ ∃ i,i<n/\ρ i=q):
 Ghost P ⟨env,m,nx⟩ ⟨ay l,up mm j (some (.cells ((List.range n).map fun i=>.sl (L i) w) e)),nx⟩:=by
 have key:∀ k,k<=n->Ghost P ⟨ay l,kX mm j n w 0 e et ρ L,nx⟩ ⟨ay l,kX mm j n w k e et ρ L,nx⟩:=fun k=>by
  induction k with
  |zero=>exact fun _=>.refl _
  |succ k ih=>exact fun hk=>(ih oG).trans (ZY h J C (fun i hi=>⟨i,hi,rfl⟩) hl U oG)
 have h0:Ghost P ⟨env,m,nx⟩ ⟨ay l,kX mm j n w 0 e et ρ L,nx⟩:=by
  refine(Ghost.forget env _ m nx (lY he)).trans (.drop _ _ _ _ fun q=>?_);by_cases hq:q=j
  .subst hq;left;simp only[kX,if_true,Nat.not_lt_zero,if_false];exact h.row.symm
  .simp only[kX,if_neg hq];by_cases hc:∃ i,0<=i/\i<n/\ρ i=q
   .rw[dif_pos hc];have e1:=Classical.choose_spec hc;left;have:=h.jr _ e1.2.1;rw[e1.2.2] at this;exact this.symm
   .rw[dif_neg hc];exact hm q
 refine h0.trans ((key n (Nat.le_refl _)).trans (.drop _ _ _ _ fun q=>.inl ?_));by_cases hq:q=j
 .subst hq;simp only[up,kX,if_true];congr 2;exact List.map_congr_left fun i hi=>by rw[if_pos (by simpa using hi)]
 .simp only[up,if_neg hq,kX];rw[dif_neg];rintro⟨i,X,g2,_⟩;omega
end
structure ju(m:Mem)(nx ji jo n w:Nat)(ρi ρo:Nat->Nat)(Li Lo:Nat->List D):Prop where
 i:kD m nx ji n w 52 4 ρi Li
 o:kD m nx jo n w 52 4 ρo Lo
 c1:m 1=some (.cells [.z,.z] 104)
 c2:m 2=some (.cells [.rs ji 0 n,.rs jo 0 n] 104)
 jj:ji≠jo
 ij:∀ k,k<n->ρi k≠jo
 oj:∀ k,k<n->ρo k≠ji
 io:∀ a b,a<n->b<n->ρi a≠ρo b
 gi:3<=ji
 go:3<=jo
 p9:∀ k,k<n->3<=ρi k
 oZ:∀ k,k<n->3<=ρo k
section
variable{m m':Mem}{nx nx' ji jo n w:Nat}{ρi ρo:Nat->Nat}{Li Lo:Nat->List D}
theorem ju.ext(h:ju m nx ji jo n w ρi ρo Li Lo)(hm:∀ q,q<nx->m' q=m q)(hn:nx<=nx'):ju m' nx' ji jo n w ρi ρo Li Lo:=
 ⟨h.i.ext (fun q hq=>hm q (by rcases hq with rfl|⟨i,hi,rfl⟩;exact h.i.jx;exact h.i.lt i hi)) hn,h.o.ext (fun q hq=>hm q (by rcases hq with rfl|⟨i,hi,rfl⟩;exact h.o.jx;exact h.o.lt i hi)) hn,
  (hm 1 (by have:=h.i.jx;have:=h.gi;omega)).trans h.c1,(hm 2 (by have:=h.i.jx;have:=h.gi;omega)).trans h.c2,h.jj,h.ij,h.oj,h.io,h.gi,h.go,h.p9,h.oZ⟩
theorem ju.alj{k:Nat}{l:List D}(h:ju m nx ji jo n w ρi ρo Li Lo)(hk:k<n)(hl:l.length=w):ju (up m (ρi k) (some (.cells l 4))) nx ji jo n w ρi ρo (up Li k l) Lo:=
 ⟨h.i.put hk hl,h.o.ext (fun q hq=>up_ne _ _ (by rcases hq with rfl|⟨i,hi,rfl⟩;exact fun e=>h.ij k hk e.symm;exact fun e=>h.io k i hk hi e.symm)) (Nat.le_refl _),
  (up_ne _ _ (by have:=h.p9 k hk;omega)).trans h.c1,(up_ne _ _ (by have:=h.p9 k hk;omega)).trans h.c2,h.jj,h.ij,h.oj,h.io,h.gi,h.go,h.p9,h.oZ⟩
theorem ju.ali{k:Nat}{l:List D}(h:ju m nx ji jo n w ρi ρo Li Lo)(hk:k<n)(hl:l.length=w):ju (up m (ρo k) (some (.cells l 4))) nx ji jo n w ρi ρo Li (up Lo k l):=
 ⟨h.i.ext (fun q hq=>up_ne _ _ (by rcases hq with rfl|⟨i,hi,rfl⟩;exact fun e=>h.oj k hk e.symm;exact h.io i k hi hk)) (Nat.le_refl _),h.o.put hk hl,
  (up_ne _ _ (by have:=h.oZ k hk;omega)).trans h.c1,(up_ne _ _ (by have:=h.oZ k hk;omega)).trans h.c2,h.jj,h.ij,h.oj,h.io,h.gi,h.go,h.p9,h.oZ⟩
def gJ(L:Nat->List D)(n w:Nat):List D:=(List.range n).map fun i=>.sl (L i) w
theorem ZZ{i sz n w:Nat}{cs:List D}{L:Nat->List D}:(gJ L n w).map (sub (fz0 i cs sz))=gJ L n w:=by
 unfold gJ;rw[List.map_map];rfl
theorem Xs{P:Program}{env:Env}(h:ju m nx ji jo n w ρi ρo Li Lo)(hi:∀ k,np (Li k))(ho:∀ k,np (Lo k))(h4:P.cellsOf 4=1)(V':P.cellsOf 52=1)(he:iA [(2,.rp 1 0),(4,.rp 2 0)] env):
 Ghost P ⟨env,m,nx⟩ ⟨ay [(2,.rp 1 0),(4,.rp 2 0)],a9 [(1,.cells [.z,.z] 104),(2,.cells [.sl (gJ Li n w) n,.sl (gJ Lo n w) n] 104)],nx⟩:=by
 have g1:=Mf (P:=P) (l:=[(2,.rp 1 0),(4,.rp 2 0)]) (mm:=fun q=>if q=jo\/(∃ k,k<n/\ρo k=q)\/q=2\/q=1 then m q else none) h.i hi h4 he (fun x hx=>by
  simp only[List.mem_cons,List.not_mem_nil,or_false] at hx;rcases hx with rfl|rfl
  .exact .rp fun⟨k,hk,e⟩=>by have:=h.p9 k hk;omega
  .exact .rp fun⟨k,hk,e⟩=>by have:=h.p9 k hk;omega)
  (fun q=>by split;exact .inl rfl;exact .inr rfl) (fun q r hq=>by
   split at hq
   .rename_i hc;rcases hc with rfl|⟨k,hk,rfl⟩|rfl|rfl
    .rw[h.o.row] at hq;cases hq;refine⟨.cells fun d hd=>?_,fun⟨k,hk,e⟩=>h.ij k hk e⟩;obtain⟨a,ha,rfl⟩:=List.mem_map.1 hd;exact .rs fun⟨k,hk,e⟩=>h.io k a hk (List.mem_range.1 ha) e
    .rw[h.o.jr k hk] at hq;cases hq;exact⟨.BK (ho k),fun⟨a,ha,e⟩=>h.io a k ha hk e⟩
    .rw[h.c2] at hq;cases hq;refine⟨.cells fun d hd=>?_,fun⟨k,hk,e⟩=>by have:=h.p9 k hk;omega⟩;simp only[List.mem_cons,List.not_mem_nil,or_false] at hd;rcases hd with rfl|rfl
     .exact .rs fun⟨k,hk,e⟩=>h.i.ne k hk e
     .exact .rs fun⟨k,hk,e⟩=>h.ij k hk e
    .rw[h.c1] at hq;cases hq;refine⟨.cells fun d hd=>?_,fun⟨k,hk,e⟩=>by have:=h.p9 k hk;omega⟩;simp only[List.mem_cons,List.not_mem_nil,or_false,or_self] at hd;subst hd;exact .z
   .cases hq)
 refine g1.trans ?_
 have JO:kD (up (fun q=>if q=jo\/(∃ k,k<n/\ρo k=q)\/q=2\/q=1 then m q else none) ji (some (.cells (gJ Li n w) 52))) nx jo n w 52 4 ρo Lo:=h.o.ext (fun q hq=>by
  rcases hq with rfl|⟨k,hk,rfl⟩
  .rw[up_ne _ _ (fun e=>h.jj e.symm),if_pos (.inl rfl)]
  .rw[up_ne _ _ (h.oj k hk),if_pos (.inr (.inl ⟨k,hk,rfl⟩))]) (Nat.le_refl _)
 have J:(1:Nat)≠ji:=by have:=h.gi;omega
 have U:(2:Nat)≠ji:=by have:=h.gi;omega
 have X:(1:Nat)≠jo:=by have:=h.go;omega
 have o2:(2:Nat)≠jo:=by have:=h.go;omega
 have g2:=Mf (P:=P) (l:=[(2,.rp 1 0),(4,.rp 2 0)]) (mm:=a9 [(ji,.cells (gJ Li n w) 52),(1,.cells [.z,.z] 104),(2,.cells [.rs ji 0 n,.rs jo 0 n] 104)]) JO ho h4 (env:=ay [(2,.rp 1 0),(4,.rp 2 0)]) ⟨rfl,rfl,trivial⟩ (fun x hx=>by
  simp only[List.mem_cons,List.not_mem_nil,or_false] at hx;rcases hx with rfl|rfl
  .exact .rp fun⟨k,hk,e⟩=>by have:=h.oZ k hk;omega
  .exact .rp fun⟨k,hk,e⟩=>by have:=h.oZ k hk;omega)
  (DD (l:=[(ji,.cells (gJ Li n w) 52),(1,.cells [.z,.z] 104),(2,.cells [.rs ji 0 n,.rs jo 0 n] 104)]) ⟨up_same _ _ _,by rw[up_ne _ _ J,if_pos (.inr (.inr (.inr rfl)))];exact h.c1,by rw[up_ne _ _ U,if_pos (.inr (.inr (.inl rfl)))];exact h.c2,trivial⟩)
  (fun q r hq=>by
   simp only[a9] at hq;split at hq
   .rename_i e;subst e;cases hq;refine⟨.cells fun d hd=>?_,fun⟨k,hk,e⟩=>h.oj k hk e⟩;unfold gJ at hd;obtain⟨a,_,rfl⟩:=List.mem_map.1 hd;exact .sl _ _
   .split at hq
    .rename_i e;subst e;cases hq;refine⟨.cells fun d hd=>?_,fun⟨k,hk,e⟩=>by have:=h.oZ k hk;omega⟩;simp only[List.mem_cons,List.not_mem_nil,or_false,or_self] at hd;subst hd;exact .z
    .split at hq
     .rename_i e;subst e;cases hq;refine⟨.cells fun d hd=>?_,fun⟨k,hk,e⟩=>by have:=h.oZ k hk;omega⟩;simp only[List.mem_cons,List.not_mem_nil,or_false] at hd;rcases hd with rfl|rfl
      .exact .rs fun⟨k,hk,e⟩=>h.oj k hk e
      .exact .rs fun⟨k,hk,e⟩=>h.o.ne k hk e
     .cases hq)
 refine g2.trans ?_
 have C:∀ {i j:Nat} {cs:List D} {sz:Nat},j≠i->sub (fz0 i cs sz) (.rp j 0)=.rp j 0:=fun {i j cs sz} aI=>by
  show(if j=i then _ else D.rp j 0)=_;exact if_neg aI
 have hmL:(List.range n).map (fun i=>D.sl (Lo i) w)=gJ Lo n w:=rfl;rw[hmL]
 have g3:=kF (P:=P) (i:=ji) (cs:=gJ Li n w) (e:=52) (nx:=nx) (env:=ay [(2,.rp 1 0),(4,.rp 2 0)]) (m:=up (a9 [(ji,.cells (gJ Li n w) 52),(1,.cells [.z,.z] 104),(2,.cells [.rs ji 0 n,.rs jo 0 n] 104)]) jo (some (.cells (gJ Lo n w) 52)))
  (l:=[(2,.rp 1 0),(4,.rp 2 0)]) (ml:=[(jo,.cells (gJ Lo n w) 52),(1,.cells [.z,.z] 104),(2,.cells [.sl (gJ Li n w) n,.rs jo 0 n] 104)]) (by rw[up_ne _ _ h.jj];exact if_pos rfl) ⟨C J,C U,trivial⟩
  ⟨by dsimp only;rw[if_neg (fun e=>h.jj e.symm),up_same];exact congrArg (fun c=>some (Row.cells c 52)) ZZ,
   by dsimp only;rw[if_neg J,up_ne _ _ X];simp only[a9,if_neg J,if_true];rfl,
   by
    dsimp only;rw[if_neg U,up_ne _ _ o2];simp only[a9,if_neg U,if_true];rw[if_neg oC];show some (Row.cells [sub _ (.rs ji 0 n),sub _ (.rs jo 0 n)] 104)=_
    rw[qe (fun e=>h.jj e.symm),V',gv (by simp[gJ])],trivial⟩
 refine g3.trans ?_
 exact kF (i:=jo) (cs:=gJ Lo n w) (e:=52) (if_pos rfl) ⟨C X,C o2,trivial⟩
  ⟨by dsimp only;rw[if_neg X];simp only[a9,if_neg X,if_true];rfl,
   by
    dsimp only;rw[if_neg o2];simp only[a9,if_neg o2,if_true];rw[if_neg oC];show some (Row.cells [_,sub _ (.rs jo 0 n)] 104)=_
    rw[V',gv (by simp[gJ])];rfl,trivial⟩
end
end Go.Abs
namespace Go.Proofs.Tryz.K
set_option maxRecDepth 10000
theorem vS{a b:List (List Int)}:PCall prog 25 [bd a,bd b] (B (decide (a=b))):=by
 have J:∀ x∈[bd a,bd b],Tr x:=.cons (nI _) (.cons (nI _) .nil);refine lj Jk.he J fun U=>?_;have hlen:=(U (bd a) oS).sl.1;unfold maxLen at hlen;refine aX mixed Jk (by rw[akU];rfl) J (Tr.s _) ?_;rw[akV,akW];refine ws ?_;refine SS ?_;refine ab (aD (an ?_));refine aV ?_;refine ab (bC rfl (fun h=>?_) fun h=>cx (aD (av ?_)))
 .refine aD (an ?_);refine SS ?_;refine ab (dx (ax (d:=B false) rfl ?_));have C:a≠b:=fun e=>by subst e;simp at h
  rw[decide_eq_false C]
 have eT:a.length=b.length:=by
  have:¬ ((a.length:Int)≠(b.length:Int)):=by simpa using h
  omega
 clear h;refine SS ?_
 refine ab (bG (fun s=>Ghost prog s ⟨ay [],fun _=>none,0⟩/\a=b) (cq (α:=Nat) (fun k=>⟨ay [(0,bd a),(1,bd b),(5,I k)],fun _=>none,0⟩)
  (fun k=>k<=a.length/\∀ j,j<k->a[j]? =b[j]?) (fun k=>a.length - k) 0 (ap eH) ⟨by omega,fun j hj=>by omega⟩ ?_) ?_)
 .rintro k ⟨hk,hinv⟩;refine aF ?_;refine ab ⟨_,rfl,fun h=>?_,fun h=>?_⟩
  .have ao:k<a.length:=by simpa using h
   have hx:a[k]? =some a[k]:=List.getElem?_eq_getElem ao;have hy:b[k]? =some b[k]:=List.getElem?_eq_getElem oG;generalize a[k]=x at hx;generalize b[k]=y at hy;have KA:=KA (a:=x) (b:=y);refine dd ZF ?_;refine bA ?_;refine cl KA ?_;refine SS ?_;refine bj (by simp[apartT]) (au rfl (fun hp=>?_) fun hp=>?_)
   .refine ws ?_;refine SS ?_;refine ab (aU (b7 (aQ (ax (d:=B false) rfl ?_))))
    have C:a≠b:=fun e=>by
     subst e;rw[hx] at hy;cases hy;simp at hp
    rw[decide_eq_false C]
   .refine b8 ?_;refine aw ?_;refine ab (aH (k+1) (ap eH) ⟨by omega,fun j hj=>?_⟩ oG);by_cases e:j=k
    .subst e;rw[hx,hy];congr 1;simpa using hp
    .exact hinv j oG
  .have aY:¬ k<a.length:=by simpa using h
   refine⟨eW (l:=[]) trivial,List.ext_getElem? fun j=>?_⟩;by_cases hj:j<k
   .exact hinv j hj
   .rw[List.getElem?_eq_none oG,List.getElem?_eq_none oG]
 .rintro s ⟨hg,X⟩;refine⟨_,hg,an ?_⟩;refine SS ?_;refine ab (ax (d:=B true) rfl ?_);rw[decide_eq_true X]
theorem akX:PCall prog 25 [.z,.z] (B true):=by
 have:=vS (a:=[]) (b:=[]);rw[decide_eq_true rfl] at this;refine ZE this rfl (fun k d d' hd C=>?_) (.cons .z (.cons .z .nil))
 match k with
 |0=>cases hd;cases C;exact IY
 |1=>cases hd;cases C;exact IY
 |k+2=>simp at hd
theorem Uu{l:List (List Int)}:PCall prog 25 [bd l,bd l] (B true):=by
 have:=vS (a:=l) (b:=l)
 rwa[decide_eq_true rfl] at this
theorem rB{l:List Int}{v:Int}:PCall prog 59 [az l,I v] (B (zp l v)):=by
 refine lj Jl.he (.cons (cI _) (.cons (.s _) .nil)) fun C=>?_;have hlen:=(C (az l) oS).sl.1;unfold maxLen at hlen;refine aX mixed Jl (by rw[akY];rfl) (.cons (cI _) (.cons (.s _) .nil)) (Tr.s _) ?_;rw[akZ,ak0];refine ws ?_;refine SS ?_;refine ab (aD (av ?_));refine SS ?_
 refine ab (bG (fun s=>Ghost prog s ⟨ay [],fun _=>none,0⟩/\∀ (j:Nat) y,l[j]? =some y->(y==v)=false) (cq (α:=Nat) (fun k=>⟨ay [(0,az l),(1,I v),(5,I k)],fun _=>none,0⟩)
  (fun k=>k<=l.length/\∀ j y,j<k->l[j]? =some y->(y==v)=false) (fun k=>l.length - k) 0 (ap eH) ⟨by omega,fun j y hj=>by omega⟩ ?_) ?_)
 .rintro k ⟨hk,hinv⟩;refine aF ?_;refine ab ⟨_,rfl,fun h=>?_,fun h=>?_⟩
  .have ao:k<l.length:=by simpa using h
   have hx:l[k]? =some l[k]:=by simp[ao]
   generalize l[k]=x at hx;refine ws ?_;refine bD ?_;refine ab (au rfl (fun hp=>?_) fun hp=>?_)
   .refine ws ?_;refine SS ?_;refine ab (aU (b7 (aQ (ax (d:=B true) rfl ?_))));have:zp l v=true:=List.any_eq_true.2 ⟨x,List.mem_of_getElem? hx,hp⟩;rw[this]
   .refine b8 ?_;refine aw ?_;refine ab (aH (k+1) (ap eH) ⟨by omega,fun j y hj hy=>?_⟩ oG);by_cases e:j=k
    .subst e;rw[hx] at hy;cases hy;exact hp
    .exact hinv j y oG hy
  .have U:¬ k<l.length:=by simpa using h
   exact⟨.forget _ _ _ _ fun _=>.inr rfl,fun j y hy=>hinv j y (by have:=(List.getElem?_eq_some_iff.1 hy).1;omega) hy⟩
 .rintro s ⟨hg,J⟩;refine⟨_,hg,an ?_⟩;refine SS ?_;refine ab (ax (d:=B false) rfl ?_)
  have:zp l v=false:=List.any_eq_false.2 fun x hx=>by
   obtain⟨j,hj⟩:=List.getElem?_of_mem hx;rw[J j x hj];simp
  rw[this]
theorem ak1{f:aA}(hf:hC f=true)(C:∀ b∈f.blocks,b.fin.aE.length<=9):PCall prog 56 [.agg (aC f)] (bd (jI f.blocks)):=
 p8 (f:=f) rfl (by have:=(yS hf).mK;omega) C (fun b hb t ht=>by rw[((Bw hf).ed b hb).2] at ht;exact((yS hf).blk b hb).to t ht)
end Go.Proofs.Tryz.K
namespace Go.Argus
theorem S3{α:Type}{p:α->Bool}:∀ {l:List α} {y:α},l[(l.takeWhile p).length]? =some y->p y=false
 |[],y,h=>by simp at h
 |a::l,y,h=>by
  rw[List.takeWhile_cons] at h;by_cases ha:p a=true
  .rw[if_pos ha,List.length_cons,List.getElem?_cons_succ] at h;exact S3 h
  .rw[if_neg ha,List.length_nil,List.getElem?_cons_zero] at h;cases h;simpa using ha
theorem Iu{α:Type}{p:α->Bool}:∀ {l:List α} {k:Nat},k<(l.takeWhile p).length->∃ y,l[k]? =some y/\(l.takeWhile p)[k]? =some y/\p y=true
 |[],k,h=>by simp at h
 |a::l,k,h=>by
  rw[List.takeWhile_cons] at h ⊢;by_cases ha:p a=true
  .rw[if_pos ha] at h ⊢;cases k with
   |zero=>exact⟨a,rfl,rfl,ha⟩
   |succ k=>
    rw[List.getElem?_cons_succ,List.getElem?_cons_succ];exact Iu (by simpa using h)
  .rw[if_neg ha] at h;simp at h
theorem MJ(x:bt):(dH x).length<=x.ins.length:=(List.takeWhile_prefix bx).length_le
def y9(l:List Bool):List Int:=((List.range l.length).filter fun i=>l.getD i false).map fun(k:Nat)=>(k:Int)
def td(l:List Bool)(k:Nat):List Int:=((List.range k).filter fun i=>l.getD i false).map fun(k:Nat)=>(k:Int)
theorem Xq(l:List Bool)(k:Nat):td l (k+1)=if l.getD k false=true then td l k++[(k:Int)] else td l k:=by
 unfold td;rw[List.range_succ,List.filter_append,List.map_append];by_cases h:l.getD k false=true
 .rw[if_pos h,List.filter_cons_of_pos (by simpa using h)];rfl
 .rw[if_neg h,List.filter_cons_of_neg (by simpa using h),List.filter_nil,List.map_nil,List.append_nil]
theorem Yu(l:List Bool)(k:Nat):(td l k).length<=k:=by
 unfold td;rw[List.length_map];exact Nat.le_trans (List.length_filter_le _ _) oS
theorem Yv{R:Nat}{L:Nat->Bool}:y9 ((List.range R).map L)=wP R L:=by
 unfold y9 wP;rw[List.length_map,List.length_range];congr 1;refine List.filter_congr fun i hi=>?_;have hi:=List.mem_range.1 hi;rw[List.getD_eq_getElem?_getD,List.getElem?_map,List.getElem?_range hi];rfl
def vT(C:aW)(A:List Int)(a r:Int)(k:Nat):Bool:=(List.range k).any fun k=>A.getD k 0==a&&C.args.getD k 0==r
theorem ZG(C:aW)(A:List Int)(a r:Int)(k:Nat):vT C A a r (k+1)=(vT C A a r k||(A.getD k 0==a&&C.args.getD k 0==r)):=by
 unfold vT;rw[List.range_succ,List.any_append];simp
theorem NC(y:bt)(A:List Int)(a r:Int):uj y A a r=(dH y).any fun C=>vT C A a r A.length:=rfl
theorem S6(l:List Int)(x:Int):zp l x=iL l x:=by rw[Bool.eq_iff_iff,Zq,nJ]
def dN(R:Nat)(M:Nat->Nat->Bool)(b:Nat):List D:=(List.range R).map fun r=>B (M b r)
theorem GP(R:Nat)(M:Nat->Nat->Bool)(b:Nat):(dN R M b).length=R:=by simp[dN]
theorem Gm{R:Nat}{M:Nat->Nat->Bool}{b r:Nat}(h:r<R):∃ cs,(dN R M b).drop r=B (M b r)::cs:=⟨_,eV (f:=fun r=>B (M b r)) (by simp[h])⟩
theorem GQ{R:Nat}{M:Nat->Nat->Bool}{b r:Nat}{v:Bool}:up (dN R M) b ((dN R M b).set r (B v))=dN R (gI M b r v):=by
 funext x;by_cases h:x=b
 .subst h;rw[up_same];unfold dN;rw[Gb];refine List.map_congr_left fun q _=>?_;by_cases e:q=r
  .subst e;rw[up_same];simp[gI]
  .rw[up_ne _ _ e];simp[gI,e]
 .rw[up_ne _ _ h];unfold dN gI;refine List.map_congr_left fun q _=>?_;simp[h]
theorem Yw(R:Nat):dN R (fun _ _=>false)=fun _=>(List.replicate R false).map B:=by
 funext x;unfold dN;rw[List.map_replicate,List.map_const',List.length_range]
def kn(n R:Nat)(M:Nat->Nat->Bool):Nat:=((List.range n).map fun b=>(List.range R).countP fun r=> !M b r).sum
theorem Lm{l:List Nat}{f g:Nat->Nat}(h:∀ x∈l,f x<=g x):(l.map f).sum<=(l.map g).sum/\((∃ x∈l,f x<g x)->(l.map f).sum<(l.map g).sum):=by
 induction l with
 |nil=>exact⟨Nat.le_refl _,fun⟨x,hx,_⟩=>by simp at hx⟩
 |cons a l ih=>
  obtain⟨i1,i2⟩:=ih fun x hx=>h x (by simp[hx]);have ha:=h a oS;simp only[List.map_cons,List.sum_cons];refine⟨by omega,fun⟨x,hx,ao⟩=>?_⟩;rcases List.mem_cons.1 hx with e|e
  .subst e;omega
  .have:=i2 ⟨x,e,ao⟩;omega
theorem MK{n R b r:Nat}{M:Nat->Nat->Bool}{v:Bool}(hv:M b r=true->v=true):kn n R (gI M b r v)<=kn n R M/\(b<n->r<R->M b r=false->v=true->kn n R (gI M b r v)<kn n R M):=by
 have J:∀ x q,M x q=true->gI M b r v x q=true:=fun x q h=>by
  unfold gI;split
  .rename_i hc;obtain⟨rfl,rfl⟩:=hc;exact hv h
  .exact h
 have h1:∀ x∈List.range n,((List.range R).countP fun r'=> !gI M b r v x r')<=((List.range R).countP fun r'=> !M x r'):=fun x _=>List.countP_mono_left fun q _ hq=>by
  cases e:M x q with
  |false=>rfl
  |true=>rw[J x q e] at hq;cases hq
 refine⟨(Lm h1).1,fun hb hr hm C=>(Lm h1).2 ⟨b,List.mem_range.2 hb,?_⟩⟩;refine LY (fun q hq=>?_) (List.mem_range.2 hr) (by simp[hm]) (by simp[gI,C]);cases e:M b q with
 |false=>rfl
 |true=>rw[J b q e] at hq;cases hq
theorem Xr{r:Int}{s:Bool}{l:List aW}{k:Nat}{y:aW}(h:l[k]? =some y):sc r s (l.drop k)=((if bM y==r then false else sc r s (l.drop (k+1)))||iL (bK y) r):=by
 have hk:=(List.getElem?_eq_some_iff.1 h).1;rw[List.drop_eq_getElem_cons hk];have:l[k]=y:=by rw[List.getElem?_eq_getElem hk] at h;exact Option.some.inj h
 rw[this];rfl
def wQ(f:aA)(M O:Nat->Nat->Bool)(b r:Nat):Prop:=pQ f b=true->kC f M b r=M b r/\lV f M b r=O b r
theorem LZ(M:Nat->Nat->Bool)(b r:Nat):gI M b r (M b r)=M:=by
 funext x y;unfold gI;split
 .rename_i h;rw[h.1,h.2]
 .rfl
def wR(n R:Nat)(M O:Nat->Nat->Bool):D:=.agg [.sl (gJ (dN R M) n R) n,.sl (gJ (dN R O) n R) n]
def ahm(k R:Nat)(m:Mem)(nx:Nat):Prop:=(k=0/\m 1=some (.cells [.z,.z] 104)/\m 2=some (.cells [.z,.z] 104)/\3<=nx)\/
 ∃ ji jo ρi ρo,ju m nx ji jo k R ρi ρo (fun _=>(List.replicate R false).map B) (fun _=>(List.replicate R false).map B)
def mN(f:aA)(b r:Nat):Bool:=a7 ((hZ (bP f) f.blocks.length (ew f)).aN.getD b []) r
def mO(f:aA)(b r:Nat):Bool:=a7 ((hZ (bP f) f.blocks.length (ew f)).out.getD b []) r
theorem aaG{n R:Nat}{M O C J:Nat->Nat->Bool}(h1:∀ b r,r<R->M b r=C b r)(h2:∀ b r,r<R->O b r=J b r):wR n R M O=wR n R C J:=by
 have key:∀ {M C:Nat->Nat->Bool},(∀ b r,r<R->M b r=C b r)->dN R M=dN R C:=fun {M C} h=>funext fun b=>List.map_congr_left fun r hr=>by rw[h b r (List.mem_range.1 hr)]
 unfold wR;rw[key h1,key h2]
theorem aaH(n R:Nat)(M O:Nat->Nat->Bool):∀ d∈[D.sl (gJ (dN R M) n R) n,D.sl (gJ (dN R O) n R) n],Tr d:=
 .cons (.sl (.map fun _=>.sl (.map fun _=>.s _))) (.cons (.sl (.map fun _=>.sl (.map fun _=>.s _))) .nil)
def ma(R:Nat)(M:Nat->Nat->Bool)(k:Nat):List (List Int):=(List.range k).map fun b=>wP R (M b)
theorem K0(R:Nat)(M:Nat->Nat->Bool)(k:Nat):(ma R M (k+1)).map az=(ma R M k).map az++[az (wP R (M k))]:=by
 unfold ma;rw[List.range_succ,List.map_append,List.map_append];rfl
theorem C'(R:Nat)(M:Nat->Nat->Bool)(k:Nat):(ma R M k).length=k:=by simp[ma]
def Bl(f:aA):D:=if fN f=0 then .tup [bd (wq f),bd (wg f),I 0] else .tup [.z,.z,I (fN f)]
theorem ZI{f:aA}(C:iE f):ma f.aj.length (mN f) f.blocks.length=wq f:=by
 have J:=(Ai (Go.Proofs.Tryz.K.lg_ok C) (Go.Proofs.Tryz.K.ord_in C)).1;exact L1 C J.ok.ln J.ok.aN fun b r _=>Iff.rfl
theorem Yz{f:aA}(C:iE f):ma f.aj.length (mO f) f.blocks.length=wg f:=by
 have J:=(Ai (Go.Proofs.Tryz.K.lg_ok C) (Go.Proofs.Tryz.K.ord_in C)).1;exact L1 C J.ok.lo J.ok.out fun b r _=>Iff.rfl
theorem ND{R n b:Nat}{M:Nat->Nat->Bool}(h:b<n):((List.range n).map fun b=>(List.range R).map (M b))[b]? =some ((List.range R).map (M b)):=by simp[h]
theorem NE(R n:Nat)(M:Nat->Nat->Bool):D.sl (gJ (dN R M) n R) n=.sl (((List.range n).map fun b=>(List.range R).map (M b)).map bW) ((List.range n).map fun b=>(List.range R).map (M b)).length:=by
 rw[List.length_map,List.length_range];unfold gJ dN;rw[List.map_map];congr 1;refine List.map_congr_left fun b _=>?_;show D.sl _ R=bW _;unfold bW;rw[List.map_map,List.length_map,List.length_range];rfl
end Go.Argus
namespace Go.Proofs.Tryz.K
set_option maxRecDepth 10000
theorem Jm{f:aA}{b:Nat}{x:Argus.bt}(hx:f.blocks[b]? =some x)(hl:x.ins.length<=100000):PCall prog 148 [.agg (aC f),I b] (I (dH x).length):=by
 refine aX mixed S4 (by rw[ahg];rfl) (.cons (.agg (gz f)) (.cons (.s _) .nil)) (Tr.s _) ?_;rw[ahh,ahi];have U:=MJ x;refine av ?_;refine ag ?_;refine ab (aJ (bp [(0,aC f,26)] eH (l:=[(1,I b),(2,.pt (aC f))]) eH) (av ?_));refine SS ?_
 refine ab (bG (fun s=>Ghost prog s ⟨ay [(5,I (dH x).length)],fun _=>none,1⟩) (wl (α:=Nat) (fun k=>⟨ay [(1,I b),(2,.pt (aC f)),(5,I k)],fun _=>none,1⟩)
  (fun k=>k<=(dH x).length) (fun k=>(dH x).length - k) 0 (ap eH) (Nat.zero_le _) ?_) ?_)
 .intro k hk;by_cases C:k<(dH x).length
  .obtain⟨y,hy,_,hp⟩:=Iu C;have dI:(y.op==19)=true:=hp;have pK:decide ((k:Int)<(x.ins.length:Int))=true:=decide_eq_true oG;refine aL ?_;refine aL ?_;refine aF ?_;refine ab ⟨_,rfl,fun _=>?_,fun h=>oH⟩;refine dJ ?_;refine aw ?_;refine ab (aH (k+1) (ap eH) oG oG)
  .have J:k=(dH x).length:=by omega
   subst J;by_cases C:(dH x).length<x.ins.length
   .have hy:x.ins[(dH x).length]? =some x.ins[(dH x).length]:=List.getElem?_eq_getElem C;have hp:=S3 (p:=bx) hy;generalize x.ins[(dH x).length]=y at hy hp;have dI:(y.op==19)=false:=hp;have pK:decide (((dH x).length:Int)<(x.ins.length:Int))=true:=decide_eq_true oG;refine aL ?_;refine aL ?_;refine aF ?_;refine ab ⟨_,rfl,fun h=>oH,fun _=>?_⟩;exact ap eH
   .have pK:decide (((dH x).length:Int)<(x.ins.length:Int))=false:=decide_eq_false oG;refine bA ?_;refine ag ?_;(iterate 11 refine z fun _ _=>?_);refine SS ?_;refine ab ⟨_,rfl,fun h=>oH,fun _=>?_⟩;exact ap eH
 .intro s hg;refine⟨_,hg,an ?_⟩;refine ag ?_;exact ab (ax rfl rfl)
theorem EK{x:Argus.End}{b:Int}(hlen:x.aE.length<=1000):PCall prog 147 [.agg (aT x),I b] (B (yT x b)):=by
 have lI:=lI (x:=x) oG;have hl:=vZ x;refine aX mixed S5 (by rw[ahj];rfl) (.cons (.agg (ix x)) (.cons (.s _) .nil)) (Tr.s _) ?_;rw[ahk,ahl];refine av ?_;refine ag ?_;refine ab (aJ (bp [(0,aT x,69)] eH (l:=[(1,I b),(2,.pt (aT x))]) eH) (an ?_));have U:yT x b=(decide (gH b (cE x)=1)&&(x.to==b&&(x.kind !=3&&x.kind !=4))):=rfl;generalize cE x=l at lI hl U;refine SS ?_;refine cl lI ?_;refine SS ?_;refine er ?_;refine SS ?_;refine ab (aD (av ?_));refine SS ?_
 refine ab (bG (fun s=>Ghost prog s ⟨ay [(1,I b),(2,.pt (aT x)),(6,I (gH b l))],fun _=>none,1⟩) (cq (α:=Nat) (fun k=>⟨ay [(1,I b),(2,.pt (aT x)),(5,az l),(6,I (gH b (l.take k))),(7,I k)],fun _=>none,1⟩)
  (fun k=>k<=l.length) (fun k=>l.length - k) 0 (ap eH) (Nat.zero_le _) ?_) ?_)
 .intro k hk;refine aF ?_;refine ab ⟨_,rfl,fun h=>?_,fun h=>?_⟩
  .have ao:k<l.length:=by simpa using h
   have hx:l[k]? =some l[k]:=by simp[ao]
   have C:gH b (l.take (k+1))=gH b (l.take k)+(if l[k]=b then 1 else 0):=by
    unfold gH;rw[List.take_add_one,hx,List.countP_append];by_cases e:l[k]=b<;>simp[e]
   have J:gH b (l.take k)<=k:=Nat.le_trans List.countP_le_length oP;generalize gH b (l.take k)=q at C J;generalize l[k]=y at hx C;refine ws ?_;refine bD ?_;refine ab (au rfl (fun hp=>?_) fun hp=>?_)
   .have hp:y=b:=by simpa using hp
    refine dJ ?_;refine aw ?_;refine ab ?_;refine aw ?_;refine ab (aH (k+1) (ap ⟨rfl,rfl,rfl,?_,rfl,trivial⟩) oG oG);rw[C,if_pos hp];rfl
   .have hp:¬ y=b:=by simpa using hp
    refine b8 ?_;refine aw ?_;refine ab (aH (k+1) (ap ⟨rfl,rfl,rfl,?_,rfl,trivial⟩) oG oG);rw[C,if_neg hp];rfl
  .have X:¬ k<l.length:=by simpa using h
   have:k=l.length:=by omega
   subst this;rw[List.take_length];exact ap eH
 .intro s hg;refine⟨_,hg,an ?_⟩;refine aL ?_;refine bA ?_;refine ag ?_;refine ab (ax (d:=.s (.bool _)) rfl ?_);rw[U]
  have e1:((gH b l:Int)==1)=decide (gH b l=1):=by
   by_cases h:gH b l=1
   .simp[h]
   .rw[decide_eq_false h];simp;omega
  show B _=_;rw[e1];cases decide (gH b l=1)<;>cases (x.to==b)<;>cases (x.kind !=3)<;>rfl
theorem vU{f:aA}{a:Nat}{b r:Int}{x:Argus.bt}(hx:f.blocks[a]? =some x)(hlen:x.fin.aE.length<=1000):PCall prog 77 [.agg (aC f),I a,I b,I r] (B (xV x.fin b r)):=by
 have xd:=xd (x:=x.fin);have EK:=EK (x:=x.fin) (b:=b) hlen;refine aX mixed Uv (by rw[ak3];rfl) (.cons (.agg (gz f)) (.cons (.s _) (.cons (.s _) (.cons (.s _) .nil)))) (Tr.s _) ?_;rw[ak4,ak5];refine av ?_;refine ag ?_;refine ab (aJ (bp [(0,aC f,26)] eH (l:=[(1,I a),(2,I b),(3,I r),(4,.pt (aC f))]) eH) (av ?_));refine bA ?_;refine ab (aJ (bp [(1,aT x.fin,69)] eH (l:=[(2,I b),(3,I r),(9,.pt (aT x.fin))]) eH) (an ?_));unfold xV;generalize yT x.fin b=al at EK ⊢;generalize C:(dp x.fin==r)=wr;have dI:=C;refine SS ?_;refine cl xd ?_;refine aV ?_;refine gc EK ?_;refine ag ?_;refine ab (ax (d:=.s (.bool _)) rfl ?_);show B _=_;cases wr<;>rfl
theorem xW{f:aA}{U:List (List Int)}{b:Nat}{a r:Int}{y:Argus.bt}{A:List Int}(hx:f.blocks[b]? =some y)(hA:U[b]? =some A)(hl:y.ins.length<=100000)(vG:A.length<=100000)(hz:∀ C∈dH y,C.args.length=A.length):
 PCall prog 81 [.agg (aC f),bd U,I a,I b,I r] (B (uj y A a r)):=by
 have Jm:=Jm hx hl;refine aX mixed Uw (by rw[ak6];rfl) (.cons (.agg (gz f)) (.cons (nI _) (.cons (.s _) (.cons (.s _) (.cons (.s _) .nil))))) (Tr.s _) ?_;rw[ak7,ak8];have ak2:=MJ y;refine av ?_;refine ag ?_;refine ab (aJ (bp [(0,aC f,26)] eH (l:=[(1,bd U),(2,I a),(3,I b),(4,I r),(5,.pt (aC f))]) eH) (aD (av ?_)));refine SS ?_
 refine ab (bG (fun s=>Ghost prog s ⟨ay [],fun _=>none,1⟩/\uj y A a r=false) (cq (α:=Nat) (fun i=>⟨ay [(1,bd U),(2,I a),(3,I b),(4,I r),(5,.pt (aC f)),(11,I i)],fun _=>none,1⟩)
  (fun i=>i<=(dH y).length/\∀ j C,j<i->(dH y)[j]? =some C->vT C A a r A.length=false) (fun i=>(dH y).length - i) 0 (ap eH) ⟨Nat.zero_le _,fun j C hj=>absurd hj (Nat.not_lt_zero _)⟩ ?_) ?_)
 .rintro i ⟨hi,hinv⟩;refine aw ?_;refine cl Jm ?_;refine SS ?_;refine ab ⟨_,rfl,fun h=>?_,fun h=>?_⟩
  .have fK:i<(dH y).length:=by simpa using h
   obtain⟨C,Kb,X,_⟩:=Iu fK;have X:(dH y)[i]? =some C:=X;have sJ:=hz C (List.mem_of_getElem? X);refine av ?_;refine SS ?_
   refine ab (cq (α:=Nat) (fun k=>⟨ay [(1,bd U),(2,I a),(3,I b),(4,I r),(5,.pt (aC f)),(11,I i),(12,I k)],fun _=>none,1⟩)
    (fun k=>k<=A.length/\vT C A a r k=false) (fun k=>A.length - k) 0 (ap eH) ⟨Nat.zero_le _,rfl⟩ ?_)
   rintro k ⟨hk,kA⟩;refine cK ?_;refine ab ⟨_,rfl,fun h=>?_,fun h=>?_⟩
   .have oA:k<A.length:=by simpa using h
    have VW:A[k]? =some A[k]:=List.getElem?_eq_getElem oA;have VX:C.args[k]? =some C.args[k]:=List.getElem?_eq_getElem oG;have J:=ZG C A a r k;rw[kA,Bool.false_or,List.getD_eq_getElem?_getD,VW,List.getD_eq_getElem?_getD,VX,Option.getD_some,Option.getD_some] at J;generalize A[k]=c at VW J;generalize C.args[k]=d at VX J
    have tI:vT C A a r (k+1)=true->uj y A a r=true:=fun h=>by
     rw[NC];refine List.any_eq_true.2 ⟨C,List.mem_of_getElem? X,?_⟩;unfold vT at h ⊢;obtain⟨q,hq,e⟩:=List.any_eq_true.1 h;exact List.any_eq_true.2 ⟨q,by simp at hq ⊢;omega,e⟩
    refine ws ?_;by_cases zG:c=a
    .have dI:(c==a)=true:=by simp[zG]
     by_cases xv:d=r
     .have uO:(d==r)=true:=by simp[xv]
      refine aL ?_;refine aL ?_;refine bA ?_;refine ab (au rfl (fun h=>an ?_) fun h=>(by revert h;simp[xv]));refine SS ?_;refine ab (aU (b7 (b7 (aQ (ax (d:=B true) rfl ?_)))));rw[tI (by rw[J,dI,uO];rfl)]
     .have uO:(d==r)=false:=by simp[xv]
      refine aL ?_;refine aL ?_;refine bA ?_;refine ab (au rfl (fun h=>(by revert h;simp[xv])) fun h=>b8 ?_);refine aw ?_;refine ab (aH (k+1) (ap eH) ⟨by omega,by rw[J,dI,uO];rfl⟩ oG)
    .have dI:(c==a)=false:=by simp[zG]
     refine bA ?_;refine ag ?_;(iterate 15 refine z fun _ _=>?_);refine SS ?_;refine ab (au rfl (fun h=>oH) fun h=>b8 ?_);refine aw ?_;refine ab (aH (k+1) (ap eH) ⟨by omega,by rw[J,dI];rfl⟩ oG)
   .have aY:¬ k<A.length:=by simpa using h
    have:k=A.length:=by omega
    subst this;show AOps _ _ _ _ _ _ _ _ _;refine aw ?_;refine ab (aH (i+1) (ap eH) ⟨by omega,fun j w hj hw=>?_⟩ oG);by_cases e:j=i
    .subst e;rw[X] at hw;cases hw;exact kA
    .exact hinv j w oG hw
  .have aY:¬ i<(dH y).length:=by simpa using h
   refine⟨eW (l:=[]) trivial,?_⟩;rw[NC,List.any_eq_false];intro C hz;obtain⟨j,hj⟩:=List.getElem?_of_mem hz;rw[hinv j C (by have:=(List.getElem?_eq_some_iff.1 hj).1;omega) hj];simp
 .rintro s ⟨hg,ht⟩;refine⟨_,hg,an ?_⟩;refine SS ?_;refine ab (ax (d:=B false) rfl ?_);rw[ht]
theorem xX{l:List Bool}(hl:l.length<=100000):PCall prog 68 [bW l] (az (y9 l)):=by
 refine aX mixed Ux (by rw[ak9];rfl) (.cons (.sl (.map fun _=>.s _)) .nil) (cI _) ?_;rw[ak',ala];refine ws ?_;refine SS ?_;refine ab (av ?_);refine SS ?_;refine ab ⟨_,(Ghost.nilrow _ _ _ 3 3 rfl).trans (aK (l:=[(0,bW l),(3,.rs 0 0 0)]) (ml:=[(0,.cells [] 3)]) eH ⟨up_same _ _ _,trivial⟩),aD (av ?_)⟩;refine SS ?_
 refine ab (bG (fun s=>∃ j m nx,Ghost prog s ⟨ay [(3,.rs j 0 (y9 l).length)],m,nx⟩/\m j=some (.cells ((y9 l).map I) 3)) (cq (α:=Nat×Nat×Mem×Nat)
  (fun s=>⟨ay [(0,bW l),(3,.rs s.2.1 0 (td l s.1).length),(4,I s.1)],s.2.2.1,s.2.2.2⟩)
  (fun s=>s.1<=l.length/\s.2.1<s.2.2.2/\s.2.2.1 s.2.1=some (.cells ((td l s.1).map I) 3)) (fun s=>l.length - s.1) (0,0,a9 [(0,.cells [] 3)],1)
  (ap eH) ⟨Nat.zero_le _,by decide,rfl⟩ ?_) ?_)
 .rintro⟨k,j,m,nx⟩ ⟨hk,J,aq⟩;dsimp only at hk J aq ⊢;refine aF ?_;refine ab ⟨_,rfl,fun h=>?_,fun h=>?_⟩
  .have ao:k<l.length:=by simpa using h
   have hx:=NB ao;have C:=Xq l k;have U:=Yu l k;generalize td l k=L at aq C U ⊢;refine ws ?_;cases hb:l.getD k false with
   |false=>
    rw[hb] at hx C;rw[if_neg oS] at C;refine aF ?_;refine ab (au rfl (fun h=>oH) fun h=>b8 ?_);refine aw ?_;refine ab (aH (k+1,j,m,nx) (ap ⟨rfl,by rw[C];rfl,rfl,trivial⟩) ⟨by dsimp only;omega,J,by dsimp only;rw[C];exact aq⟩ oM)
   |true=>
    rw[hb] at hx C;rw[if_pos rfl] at C;refine aF ?_;refine ab (au rfl (fun h=>dJ ?_) fun h=>oH);refine aV ?_;refine ab ?_;refine aw ?_;refine ab (aH (k+1,nx+1,up (up (up m nx (some (.cells [I k] 3))) j none) (nx+1) (some (.cells (L.map I++[I k]) 3)),nx+2) (gO ⟨rfl,by rw[C,List.length_append];rfl,rfl,trivial⟩ rfl) ⟨by dsimp only;omega,by dsimp only;omega,?_⟩ oM);dsimp only;rw[up_same,C,List.map_append,List.map_cons,List.map_nil]
  .have X:¬ k<l.length:=by simpa using h
   have:k=l.length:=by omega
   subst this;exact⟨j,m,nx,ap eH,aq⟩
 .rintro s ⟨j,m,nx,hg,aq⟩;refine⟨_,hg,av ?_⟩;generalize y9 l=L at aq;refine ag ?_;refine ab (aJ (bp [(j,L.map I,3)] ⟨aq,trivial⟩ (l:=[(2,az L)]) ⟨?_,trivial⟩) (ax rfl rfl));show sub (fz0 j _ (prog.cellsOf 3)) (D.rs j 0 L.length)=_;rw[gv (by rw[c3];simp)]
theorem GR{P:Program}{α:Type}{S:α->St}{J:α->Prop}{μ:α->Nat}{x:α}{env:Env}{m:Mem}{nx:Nat}{l:List (Nat×D)}(he:iA l env)(K:∀ M,M=m->r9 P S J μ x ⟨ay l,M,nx⟩):r9 P S J μ x ⟨env,m,nx⟩:=by
 obtain⟨C,h1,h2,h3⟩:=K m rfl;exact⟨C,(ap he).trans h1,h2,h3⟩
set_option maxHeartbeats 2000000 in
theorem xY{f:aA}(dL:hC f=true)(hw:∀ b∈f.blocks,b.fin.aE.length<=9):PCall prog 67 [.agg (aC f)] (wR f.blocks.length f.aj.length (mN f) (mO f)):=by
 have hF:=Bw dL;have bf:=hF.ok;have Fy:=bf.mK;have la:=bf.pos;have hR1:=bf.aj;have hg:=Uc bf;have p8:=ak1 dL hw;have Uy:=fun(l:List Int) (v:Int)=>rB (l:=l) (v:=v);have Uz:=fun {k:Nat} (h:k<f.blocks.length)=>Yt dL h;have vG:(jI f.blocks).length=f.blocks.length:=by simp[jI]
 have FG:=FG hF hw (w:= -1);have cN:=yp (w:= -1) hg.to hg.pos;have tE:∀ b,pQ f b=(dC (gk f) f.blocks.length (-1)).getD b false:=fun _=>rfl;have ahn:=fun {M O:Nat->Nat->Bool} (h:rC f M O)=>aaI hF h (R:=f.aj.length) rfl;have abz:=fun {M O:Nat->Nat->Bool} (h:rC f M O) {b r:Nat}=>ZH hF h (b:=b) (r:=r);refine aX mixed UA (by rw[alb];rfl) (.cons (.agg (gz f)) .nil) (.agg (aaH _ _ _ _)) ?_;generalize jI f.blocks=AL at p8 Uz vG;generalize dC (gk f) f.blocks.length (-1)=CN at FG cN tE;rw[alc,ald];refine av ?_;refine ag ?_;refine ab (aJ (kF (i:=0) (l:=[(1,.pt (aC f)),(2,.rp 1 0)]) (ml:=[(1,.cells [.z,.z] 104)]) rfl eH eH) (an ?_));refine aF ?_;refine er ?_;refine SS ?_;refine ab (aD (av ?_));refine SS ?_
 refine ab (bG (fun s=>∃ ji jo ρi ρo m nx,Ghost prog s ⟨ay [(1,.pt (aC f)),(2,.rp 1 0),(3,I f.blocks.length),(4,.rp 2 0)],m,nx⟩/\ju m nx ji jo f.blocks.length f.aj.length ρi ρo (fun _=>(List.replicate f.aj.length false).map B) (fun _=>(List.replicate f.aj.length false).map B)) (cq (α:=Nat×Mem×Nat)
  (fun s=>⟨ay [(1,.pt (aC f)),(2,.rp 1 0),(3,I f.blocks.length),(4,.rp 2 0),(5,I s.1)],s.2.1,s.2.2⟩)
  (fun s=>s.1<=f.blocks.length/\ahm s.1 f.aj.length s.2.1 s.2.2) (fun s=>f.blocks.length - s.1) (0,_,3)
  (ap eH) ⟨Nat.zero_le _,.inl ⟨rfl,rfl,rfl,by decide⟩⟩ ?_) ?_)
 .rintro⟨k,m,nx⟩ ⟨hk,B2⟩;dsimp only at hk B2 ⊢;refine aw ?_;refine ab ⟨_,rfl,fun h=>?_,fun h=>?_⟩
  .have ao:k<f.blocks.length:=by simpa using h
   have kz:((List.replicate f.aj.length false).map B).length=f.aj.length:=by simp
   rcases B2 with⟨rfl,fL,aq,fC⟩|⟨ji,jo,ρi,ρo,C⟩
   .refine mQ ML ?_;refine cK ?_;refine eQ (Hu rfl rfl V.h V.h (nG (up_same _ _ _) rfl)) ak ⟨V.h,(by first|omega|exact Nat.le_of_ble_eq_true rfl|(simp;done)|(simp;omega)),oC,(by unfold maxLen;first|omega|(simp;omega)),(by rw[CL];first|omega|(simp;omega))⟩ ?_;refine UB ?_;refine SS ?_;refine bj (by simp[apartT]) (DU (l:=[(1,.pt (aC f)),(2,.rp 1 0),(3,I f.blocks.length),(4,.rp 2 0),(5,I ((0:Nat):Int))]) ⟨rfl,rfl,rfl,rfl,rfl,trivial⟩ fun J X=>?_);have f2:J 2=some (.cells [.rs (nx+2) 0 1,.z] 104):=(by rw[X];first|exact up_same _ _ _|exact af oG (up_same _ _ _)|exact af oG (af oG (up_same _ _ _))|exact af oG (af oG (af oG (up_same _ _ _)))|exact af oG (af oG (af oG (af oG (up_same _ _ _))))|exact af oG (af oG (af oG (af oG (af oG (up_same _ _ _)))))|exact af oG (af oG (af oG (af oG (af oG (af oG (up_same _ _ _))))))|exact af oG (af oG (af oG (af oG (af oG (af oG (af oG (up_same _ _ _))))))))
    have fj:J (nx+2)=some (.cells [.rs nx 0 f.aj.length] 52):=(by rw[X];first|exact up_same _ _ _|exact af oG (up_same _ _ _)|exact af oG (af oG (up_same _ _ _))|exact af oG (af oG (af oG (up_same _ _ _)))|exact af oG (af oG (af oG (af oG (up_same _ _ _))))|exact af oG (af oG (af oG (af oG (af oG (up_same _ _ _)))))|exact af oG (af oG (af oG (af oG (af oG (af oG (up_same _ _ _))))))|exact af oG (af oG (af oG (af oG (af oG (af oG (af oG (up_same _ _ _))))))))
    have fr:J nx=some (.cells ((List.replicate f.aj.length false).map B) 4):=by
     rw[<- pj];exact(by rw[X];first|exact up_same _ _ _|exact af oG (up_same _ _ _)|exact af oG (af oG (up_same _ _ _))|exact af oG (af oG (af oG (up_same _ _ _)))|exact af oG (af oG (af oG (af oG (up_same _ _ _))))|exact af oG (af oG (af oG (af oG (af oG (up_same _ _ _)))))|exact af oG (af oG (af oG (af oG (af oG (af oG (up_same _ _ _))))))|exact af oG (af oG (af oG (af oG (af oG (af oG (af oG (up_same _ _ _))))))))
    have f1:J 1=some (.cells [.z,.z] 104):=by
     rw[<- fL];exact(by rw[X];first|exact rfl|exact af oG (rfl)|exact af oG (af oG (rfl))|exact af oG (af oG (af oG (rfl)))|exact af oG (af oG (af oG (af oG (rfl))))|exact af oG (af oG (af oG (af oG (af oG (rfl)))))|exact af oG (af oG (af oG (af oG (af oG (af oG (rfl))))))|exact af oG (af oG (af oG (af oG (af oG (af oG (af oG (rfl))))))))
    clear X fL aq;have aq:=f2;refine iZ MM ?_;refine cK ?_;refine eQ (Hu rfl rfl V.h V.h (nG (up_same _ _ _) rfl)) ak ⟨V.h,(by first|omega|exact Nat.le_of_ble_eq_true rfl|(simp;done)|(simp;omega)),oC,(by unfold maxLen;first|omega|(simp;omega)),(by rw[CL];first|omega|(simp;omega))⟩ ?_;refine SS ?_;refine cr (gy (d:=.rs _ _ _) (cs':=_) rfl rfl aq rfl rfl) ak (dy V.h V.h (by first|(simp;done)|exact⟨rfl,Nat.le_of_ble_eq_true rfl⟩|(simp;omega)) rfl) ?_;refine bj (by simp[apartT]) ?_;refine aw ?_;refine ab (GR (l:=[(1,.pt (aC f)),(2,.rp 1 0),(3,I f.blocks.length),(4,.rp 2 0),(5,I ((0+1:Nat):Int))]) ⟨rfl,rfl,rfl,rfl,rfl,trivial⟩ fun M2 jz=>?_);have g2:M2 2=some (.cells [.rs (nx+2) 0 1,.rs (nx+5) 0 1] 104):=(by rw[jz];first|exact up_same _ _ _|exact af oG (up_same _ _ _)|exact af oG (af oG (up_same _ _ _))|exact af oG (af oG (af oG (up_same _ _ _)))|exact af oG (af oG (af oG (af oG (up_same _ _ _))))|exact af oG (af oG (af oG (af oG (af oG (up_same _ _ _)))))|exact af oG (af oG (af oG (af oG (af oG (af oG (up_same _ _ _))))))|exact af oG (af oG (af oG (af oG (af oG (af oG (af oG (up_same _ _ _))))))))
    have gj:M2 (nx+5)=some (.cells [.rs (nx+3) 0 f.aj.length] 52):=(by rw[jz];first|exact up_same _ _ _|exact af oG (up_same _ _ _)|exact af oG (af oG (up_same _ _ _))|exact af oG (af oG (af oG (up_same _ _ _)))|exact af oG (af oG (af oG (af oG (up_same _ _ _))))|exact af oG (af oG (af oG (af oG (af oG (up_same _ _ _)))))|exact af oG (af oG (af oG (af oG (af oG (af oG (up_same _ _ _))))))|exact af oG (af oG (af oG (af oG (af oG (af oG (af oG (up_same _ _ _))))))))
    have gr:M2 (nx+3)=some (.cells ((List.replicate f.aj.length false).map B) 4):=by
     rw[<- pj];exact(by rw[jz];first|exact up_same _ _ _|exact af oG (up_same _ _ _)|exact af oG (af oG (up_same _ _ _))|exact af oG (af oG (af oG (up_same _ _ _)))|exact af oG (af oG (af oG (af oG (up_same _ _ _))))|exact af oG (af oG (af oG (af oG (af oG (up_same _ _ _)))))|exact af oG (af oG (af oG (af oG (af oG (af oG (up_same _ _ _))))))|exact af oG (af oG (af oG (af oG (af oG (af oG (af oG (up_same _ _ _))))))))
    have jW:∀ q,q<nx+3->q≠2->M2 q=J q:=fun q hq Cy=>(by rw[jz];first|exact rfl|exact af oG (rfl)|exact af oG (af oG (rfl))|exact af oG (af oG (af oG (rfl)))|exact af oG (af oG (af oG (af oG (rfl))))|exact af oG (af oG (af oG (af oG (af oG (rfl)))))|exact af oG (af oG (af oG (af oG (af oG (af oG (rfl))))))|exact af oG (af oG (af oG (af oG (af oG (af oG (af oG (rfl))))))))
    refine aH (0+1,M2,nx+6) (.refl _) ⟨by dsimp only;omega,.inr ⟨nx+2,nx+5,_,_,⟨kD.one ((jW _ oG oG).trans fj) ((jW _ oG oG).trans fr) kz oM oM oG,kD.one gj gr kz oM oM oG,
     (jW _ oG oG).trans f1,g2,by omega,fun _ _=>by omega,fun _ _=>by omega,fun _ _ _ _=>by omega,by omega,by omega,fun _ _=>by omega,fun _ _=>by omega⟩⟩⟩ oM
   .have aq:=C.c2;have bX:=C.i.row;have nt:=C.i.jx;have xu:=C.o.jx;have hgi:=C.gi;have JC:=C.go;have oD:=C.jj;have k8:((List.range k).map fun i=>D.rs (ρi i) 0 f.aj.length).length=k:=by simp
    refine mQ ML ?_;refine cK ?_;refine pJ (pA rfl (af oG (af oG bX)) rfl V.h V.h (nG (up_same _ _ _) rfl) rfl) ak ⟨V.h,rfl,(by first|omega|exact Nat.le_of_ble_eq_true rfl|(simp;done)|(simp;omega)),oC,(by first|rfl|(simp;done)|(simp;omega)),(by unfold maxLen;first|omega|(simp;omega)),(by rw[CL];first|omega|(simp;omega)),(by first|(simp;done)|(simp;omega))⟩ ?_;have aq:up m nx (some (.cells (replD ((f.aj.length:Nat):Int).toNat [B false]) 4)) 2=_:=af oG aq;refine UB ?_;refine SS ?_;refine bj (by simp[apartT]) (DU (l:=[(1,.pt (aC f)),(2,.rp 1 0),(3,I f.blocks.length),(4,.rp 2 0),(5,I k)]) ⟨rfl,rfl,rfl,rfl,rfl,trivial⟩ fun J X=>?_);have f2:J 2=some (.cells [.rs (nx+2) 0 (k+1),.rs jo 0 k] 104):=(by rw[X];first|exact up_same _ _ _|exact af oG (up_same _ _ _)|exact af oG (af oG (up_same _ _ _))|exact af oG (af oG (af oG (up_same _ _ _)))|exact af oG (af oG (af oG (af oG (up_same _ _ _))))|exact af oG (af oG (af oG (af oG (af oG (up_same _ _ _)))))|exact af oG (af oG (af oG (af oG (af oG (af oG (up_same _ _ _))))))|exact af oG (af oG (af oG (af oG (af oG (af oG (af oG (up_same _ _ _))))))))
    have fj:J (nx+2)=some (.cells ((List.range k).map (fun i=>D.rs (ρi i) 0 f.aj.length)++[.rs nx 0 f.aj.length]) 52):=(by rw[X];first|exact up_same _ _ _|exact af oG (up_same _ _ _)|exact af oG (af oG (up_same _ _ _))|exact af oG (af oG (af oG (up_same _ _ _)))|exact af oG (af oG (af oG (af oG (up_same _ _ _))))|exact af oG (af oG (af oG (af oG (af oG (up_same _ _ _)))))|exact af oG (af oG (af oG (af oG (af oG (af oG (up_same _ _ _))))))|exact af oG (af oG (af oG (af oG (af oG (af oG (af oG (up_same _ _ _))))))))
    have fr:J nx=some (.cells ((List.replicate f.aj.length false).map B) 4):=by
     rw[<- pj];exact(by rw[X];first|exact up_same _ _ _|exact af oG (up_same _ _ _)|exact af oG (af oG (up_same _ _ _))|exact af oG (af oG (af oG (up_same _ _ _)))|exact af oG (af oG (af oG (af oG (up_same _ _ _))))|exact af oG (af oG (af oG (af oG (af oG (up_same _ _ _)))))|exact af oG (af oG (af oG (af oG (af oG (af oG (up_same _ _ _))))))|exact af oG (af oG (af oG (af oG (af oG (af oG (af oG (up_same _ _ _))))))))
    have jW:∀ q,q<nx->q≠ji->q≠2->J q=m q:=fun q hq eB Cy=>(by rw[X];first|exact rfl|exact af oG (rfl)|exact af oG (af oG (rfl))|exact af oG (af oG (af oG (rfl)))|exact af oG (af oG (af oG (af oG (rfl))))|exact af oG (af oG (af oG (af oG (af oG (rfl)))))|exact af oG (af oG (af oG (af oG (af oG (af oG (rfl))))))|exact af oG (af oG (af oG (af oG (af oG (af oG (af oG (rfl))))))))
    have VY:=C.i.push (m':=J) (nx':=nx+3) (j':=nx+2) (r:=nx) kz (Nat.le_refl _) oG oG oG oG fj fr fun i hi=>jW _ (C.i.lt i hi) (C.i.ne i hi) (by have:=C.p9 i hi;omega)
    have FH:=C.o.ext (m':=J) (nx':=nx+3) (fun q hq=>by
     rcases hq with rfl|⟨i,hi,rfl⟩
     .exact jW _ xu (fun e=>oD e.symm) oG
     .exact jW _ (C.o.lt i hi) (C.oj i hi) (by have:=C.oZ i hi;omega)) oG
    have f1:=(jW 1 oG oG oG).trans C.c1;clear X aq bX k8;have aq:=f2;have bX:=FH.row;have k8:((List.range k).map fun i=>D.rs (ρo i) 0 f.aj.length).length=k:=by simp
    refine iZ MM ?_;refine cK ?_;refine pJ (pA rfl (af oG (af oG bX)) rfl V.h V.h (nG (up_same _ _ _) rfl) rfl) ak ⟨V.h,rfl,(by first|omega|exact Nat.le_of_ble_eq_true rfl|(simp;done)|(simp;omega)),oC,(by first|rfl|(simp;done)|(simp;omega)),(by unfold maxLen;first|omega|(simp;omega)),(by rw[CL];first|omega|(simp;omega)),(by first|(simp;done)|(simp;omega))⟩ ?_;have aq:up J (nx+3) (some (.cells (replD ((f.aj.length:Nat):Int).toNat [B false]) 4)) 2=_:=af oG aq;refine aB (o8 rfl (af oG (af oG aq)) V.h) ak (m7 V.h) ?_;refine SS ?_;refine bj (by simp[apartT]) ?_;refine aw ?_;refine ab (GR (l:=[(1,.pt (aC f)),(2,.rp 1 0),(3,I f.blocks.length),(4,.rp 2 0),(5,I ((k+1:Nat):Int))]) ⟨rfl,rfl,rfl,rfl,rfl,trivial⟩ fun M2 jz=>?_);have g2:M2 2=some (.cells [.rs (nx+2) 0 (k+1),.rs (nx+5) 0 (k+1)] 104):=(by rw[jz];first|exact up_same _ _ _|exact af oG (up_same _ _ _)|exact af oG (af oG (up_same _ _ _))|exact af oG (af oG (af oG (up_same _ _ _)))|exact af oG (af oG (af oG (af oG (up_same _ _ _))))|exact af oG (af oG (af oG (af oG (af oG (up_same _ _ _)))))|exact af oG (af oG (af oG (af oG (af oG (af oG (up_same _ _ _))))))|exact af oG (af oG (af oG (af oG (af oG (af oG (af oG (up_same _ _ _))))))))
    have gj:M2 (nx+5)=some (.cells ((List.range k).map (fun i=>D.rs (ρo i) 0 f.aj.length)++[.rs (nx+3) 0 f.aj.length]) 52):=(by rw[jz];first|exact up_same _ _ _|exact af oG (up_same _ _ _)|exact af oG (af oG (up_same _ _ _))|exact af oG (af oG (af oG (up_same _ _ _)))|exact af oG (af oG (af oG (af oG (up_same _ _ _))))|exact af oG (af oG (af oG (af oG (af oG (up_same _ _ _)))))|exact af oG (af oG (af oG (af oG (af oG (af oG (up_same _ _ _))))))|exact af oG (af oG (af oG (af oG (af oG (af oG (af oG (up_same _ _ _))))))))
    have gr:M2 (nx+3)=some (.cells ((List.replicate f.aj.length false).map B) 4):=by
     rw[<- pj];exact(by rw[jz];first|exact up_same _ _ _|exact af oG (up_same _ _ _)|exact af oG (af oG (up_same _ _ _))|exact af oG (af oG (af oG (up_same _ _ _)))|exact af oG (af oG (af oG (af oG (up_same _ _ _))))|exact af oG (af oG (af oG (af oG (af oG (up_same _ _ _)))))|exact af oG (af oG (af oG (af oG (af oG (af oG (up_same _ _ _))))))|exact af oG (af oG (af oG (af oG (af oG (af oG (af oG (up_same _ _ _))))))))
    have EL:∀ q,q<nx+3->q≠jo->q≠2->M2 q=J q:=fun q hq eB Cy=>(by rw[jz];first|exact rfl|exact af oG (rfl)|exact af oG (af oG (rfl))|exact af oG (af oG (af oG (rfl)))|exact af oG (af oG (af oG (af oG (rfl))))|exact af oG (af oG (af oG (af oG (af oG (rfl)))))|exact af oG (af oG (af oG (af oG (af oG (af oG (rfl))))))|exact af oG (af oG (af oG (af oG (af oG (af oG (af oG (rfl))))))))
    clear jz jW;have UC:=FH.push (m':=M2) (nx':=nx+6) (j':=nx+5) (r:=nx+3) kz (Nat.le_refl _) oG oG oG oG gj gr fun i hi=>EL _ (FH.lt i hi) (FH.ne i hi) (by have:=C.oZ i hi;omega);have uc:up (fun _:Nat=>(List.replicate f.aj.length false).map B) k ((List.replicate f.aj.length false).map B)=fun _=>(List.replicate f.aj.length false).map B:=funext fun i=>by simp[up]
    rw[uc] at VY UC
    have bl:∀ i,i<k+1->up ρi k nx i<=nx/\up ρi k nx i≠jo/\3<=up ρi k nx i:=fun i hi=>by
     by_cases e:i=k
     .subst e;rw[up_same];omega
     .rw[up_ne _ _ e];have:=C.i.lt i oG;have:=C.ij i oG;have:=C.p9 i oG;omega
    have Cb:∀ i,i<k+1->up ρo k (nx+3) i≠nx+2/\3<=up ρo k (nx+3) i/\(up ρo k (nx+3) i=nx+3\/(i<k/\up ρo k (nx+3) i=ρo i)):=fun i hi=>by
     by_cases e:i=k
     .subst e;rw[up_same];omega
     .rw[up_ne _ _ e];have:=C.o.lt i oG;have:=C.oZ i oG;omega
    have ale:=VY.ext (m':=M2) (nx':=nx+6) (fun q hq=>by
     rcases hq with rfl|⟨i,hi,rfl⟩
     .exact EL _ oG oG oG
     .have:=bl i hi;exact EL _ oG oG oG) oG
    refine aH (k+1,M2,nx+6) (.refl _) ⟨by dsimp only;omega,.inr ⟨nx+2,nx+5,_,_,⟨ale,UC,(EL 1 oG oG oG).trans f1,g2,by omega,fun i hi=>by have:=bl i hi;omega,fun i hi=>(Cb i hi).1,fun a b ha hb e=>?_,by omega,by omega,fun i hi=>(bl i hi).2.2,fun i hi=>(Cb i hi).2.1⟩⟩⟩ oM;have h1:=bl a ha;rcases(Cb b hb).2.2 with h2|⟨h2,h3⟩
    .omega
    .by_cases ea:a=k
     .subst ea;rw[up_same,h3] at e;have:=C.o.lt b h2;omega
     .rw[up_ne _ _ ea,h3] at e;exact C.io a b oG h2 e
  .have aY:¬ k<f.blocks.length:=by simpa using h
   have:k=f.blocks.length:=by omega
   subst this;rcases B2 with⟨h0,_⟩|⟨ji,jo,ρi,ρo,C⟩
   .omega
   .exact⟨ji,jo,ρi,ρo,m,nx,ap eH,C⟩
 .rintro s ⟨ji,jo,ρi,ρo,m,nx,o4,uk⟩;refine⟨_,o4,an ?_⟩;rw[<- Yw] at uk;refine SS ?_;refine cl FG ?_;refine SS ?_;refine er ?_;refine SS ?_;refine cl p8 ?_;refine SS ?_;refine ab (aD (av ?_));refine SS ?_
  refine ab (bG (fun s=>∃ M O m nx,Ghost prog s ⟨ay [(2,.rp 1 0),(4,.rp 2 0)],m,nx⟩/\ju m nx ji jo f.blocks.length f.aj.length ρi ρo (dN f.aj.length M) (dN f.aj.length O)/\rC f M O/\∀ b r,r<f.aj.length->wQ f M O b r) (wl (α:=(Nat->Nat->Bool)×(Nat->Nat->Bool)×Mem×Nat×Bool)
   (fun s=>⟨ay [(1,.pt (aC f)),(2,.rp 1 0),(3,I f.blocks.length),(4,.rp 2 0),(6,bW CN),(7,bd AL),(8,B s.2.2.2.2)],s.2.2.1,s.2.2.2.1⟩)
   (fun s=>ju s.2.2.1 s.2.2.2.1 ji jo f.blocks.length f.aj.length ρi ρo (dN f.aj.length s.1) (dN f.aj.length s.2.1)/\rC f s.1 s.2.1/\(s.2.2.2.2=false->∀ b r,r<f.aj.length->wQ f s.1 s.2.1 b r)) (fun s=>2*(kn f.blocks.length f.aj.length (s.1)+kn f.blocks.length f.aj.length (s.2.1))+if s.2.2.2.2=true then 1 else 0)
   (fun _ _=>false,fun _ _=>false,m,nx,true) (ap eH) ⟨uk,Yx,fun h=>by cases h⟩ ?_) ?_)
  .clear uk o4;rintro⟨M0,O0,m,nx,t0⟩ ⟨uk,sI,VZ⟩;dsimp only at uk sI VZ ⊢;refine SS ?_;refine ab ⟨_,rfl,fun ht=>?_,fun ht=>?_⟩
   .refine ws ?_;refine SS ?_;refine ab (av ?_);refine SS ?_
    refine ab (cq (α:=Nat×(Nat->Nat->Bool)×(Nat->Nat->Bool)×Mem×Nat×Bool)
     (fun s=>⟨ay [(1,.pt (aC f)),(2,.rp 1 0),(3,I f.blocks.length),(4,.rp 2 0),(6,bW CN),(7,bd AL),(8,B s.2.2.2.2.2),(9,I s.1)],s.2.2.2.1,s.2.2.2.2.1⟩)
     (fun s=>s.1<=f.blocks.length/\ju s.2.2.2.1 s.2.2.2.2.1 ji jo f.blocks.length f.aj.length ρi ρo (dN f.aj.length s.2.1) (dN f.aj.length s.2.2.1)/\rC f s.2.1 s.2.2.1/\(s.2.2.2.2.2=false->s.2.1=M0/\s.2.2.1=O0/\∀ b r,b<s.1->r<f.aj.length->wQ f M0 O0 b r)/\(s.2.2.2.2.2=true->kn f.blocks.length f.aj.length (s.2.1)+kn f.blocks.length f.aj.length (s.2.2.1)<kn f.blocks.length f.aj.length (M0)+kn f.blocks.length f.aj.length (O0)))
     (fun s=>f.blocks.length - s.1) (0,M0,O0,m,nx,false)
     (ap eH) ⟨Nat.zero_le _,uk,sI,fun _=>⟨rfl,rfl,fun b r hb=>absurd hb (Nat.not_lt_zero _)⟩,fun h=>by cases h⟩ ?_)
    clear uk sI;rintro⟨b,Mb,Ob,mb,nb,tb⟩ ⟨xM,C,sQ,nF,jA⟩;dsimp only at xM C sQ nF jA ⊢;refine aw ?_;refine ab ⟨_,rfl,fun h=>?_,fun h=>?_⟩
    .have lM:b<f.blocks.length:=by simpa using h
     have hx:f.blocks[b]? =some f.blocks[b]:=List.getElem?_eq_getElem lM;have bI:f.blocks[b]∈f.blocks:=List.getElem_mem _;have KB:bY f b=f.blocks[b]:=rK hx;have jy:=jy hx (by have:=hw _ bI;omega);rw[(hF.ed _ bI).2, <- Du hx] at jy;have tH:=tH (x:=f.blocks[b].fin) (fun h5 ho=>by have:=(bf.TL _ bI h5).ar ho;omega) (fun h1=>by have:=(bf.ends _ bI).fin.a2 h1;omega);have zO:=hw _ bI;have hlen:=(bf.blk _ bI).len;have qQ:=(bf.blk _ bI).ins;have UD:=fun(c:Int) (r:Nat)=>vU (a:=b) (b:=c) (r:=(r:Int)) hx oG;have dU:=NB (l:=CN) (i:=b) oG;have EM:=tE b;refine av ?_;refine SS ?_
     refine ab (cq (α:=Nat×(Nat->Nat->Bool)×(Nat->Nat->Bool)×Mem×Nat×Bool)
      (fun s=>⟨ay [(1,.pt (aC f)),(2,.rp 1 0),(3,I f.blocks.length),(4,.rp 2 0),(6,bW CN),(7,bd AL),(8,B s.2.2.2.2.2),(9,I b),(10,I s.1)],s.2.2.2.1,s.2.2.2.2.1⟩)
      (fun s=>s.1<=f.aj.length/\ju s.2.2.2.1 s.2.2.2.2.1 ji jo f.blocks.length f.aj.length ρi ρo (dN f.aj.length s.2.1) (dN f.aj.length s.2.2.1)/\rC f s.2.1 s.2.2.1/\(s.2.2.2.2.2=false->s.2.1=M0/\s.2.2.1=O0/\(∀ x r,x<b->r<f.aj.length->wQ f M0 O0 x r)/\∀ r,r<s.1->wQ f M0 O0 b r)/\(s.2.2.2.2.2=true->kn f.blocks.length f.aj.length (s.2.1)+kn f.blocks.length f.aj.length (s.2.2.1)<kn f.blocks.length f.aj.length (M0)+kn f.blocks.length f.aj.length (O0)))
      (fun s=>f.aj.length - s.1) (0,Mb,Ob,mb,nb,tb)
      (ap eH) ⟨Nat.zero_le _,C,sQ,fun h=>⟨(nF h).1,(nF h).2.1,(nF h).2.2,fun r hr=>absurd hr (Nat.not_lt_zero _)⟩,jA⟩ ?_)
     clear C sQ nF jA;rintro⟨r,M,O,m,nx,t⟩ ⟨Ck,C,sQ,nF,jA⟩;dsimp only at Ck C sQ nF jA ⊢
     have uJ:(¬ r<f.aj.length\/pQ f b=false)->∀ env,iA [(1,.pt (aC f)),(2,.rp 1 0),(3,I f.blocks.length),(4,.rp 2 0),(6,bW CN),(7,bd AL),(8,B t),(9,I ((b+1:Nat):Int))] env->r9 prog (fun s:Nat×(Nat->Nat->Bool)×(Nat->Nat->Bool)×Mem×Nat×Bool=>(⟨ay [(1,.pt (aC f)),(2,.rp 1 0),(3,I f.blocks.length),(4,.rp 2 0),(6,bW CN),(7,bd AL),(8,B s.2.2.2.2.2),(9,I s.1)],s.2.2.2.1,s.2.2.2.2.1⟩:St))
      (fun s=>s.1<=f.blocks.length/\ju s.2.2.2.1 s.2.2.2.2.1 ji jo f.blocks.length f.aj.length ρi ρo (dN f.aj.length s.2.1) (dN f.aj.length s.2.2.1)/\rC f s.2.1 s.2.2.1/\(s.2.2.2.2.2=false->s.2.1=M0/\s.2.2.1=O0/\∀ b r,b<s.1->r<f.aj.length->wQ f M0 O0 b r)/\(s.2.2.2.2.2=true->kn f.blocks.length f.aj.length (s.2.1)+kn f.blocks.length f.aj.length (s.2.2.1)<kn f.blocks.length f.aj.length (M0)+kn f.blocks.length f.aj.length (O0)))
      (fun s=>f.blocks.length - s.1) (b,Mb,Ob,mb,nb,tb) ⟨env,m,nx⟩:=fun hc env he=>by
      refine aH (b+1,M,O,m,nx,t) (ap he) ⟨by dsimp only;omega,C,sQ,fun e=>?_,jA⟩ oM;obtain⟨e1,e2,e3,e4⟩:=nF e;refine⟨e1,e2,fun x q tK hq=>?_⟩;dsimp only at tK;by_cases ex:x=b
      .subst ex;rcases hc with hc|hc
       .exact e4 q oG
       .exact fun h=>by rw[hc] at h;cases h
      .exact e3 x q oG hq
     cases eR:CN.getD b false with
     |false=>
      rw[eR] at dU EM;refine aV ?_;(iterate 5 refine z fun _ _=>?_);refine SS ?_;refine ab ⟨_,rfl,fun h=>oH,fun _=>?_⟩;show AOps _ _ _ _ _ _ _ _ _;refine aw ?_;exact ab (uJ (.inr EM) _ ⟨rfl,rfl,rfl,rfl,rfl,rfl,rfl,rfl,trivial⟩)
     |true=>
     rw[eR] at dU EM;refine aL ?_;refine ag ?_;refine ab ⟨_,rfl,fun h=>?_,fun h=>?_⟩
     .have BY:r<f.aj.length:=by simpa using h
      clear uJ;obtain⟨Jn,vV,xZ⟩:=abz sQ (b:=b) (r:=r) EM;have CM:kC f M b r=sc r (lV f M b r) f.blocks[b].ins:=by unfold kC;rw[KB]
      have rv:lV f M b r=(iL (bJ f.blocks[b].fin) r||(gk f b).any (qa f M b r)):=by unfold lV;rw[KB]
      have sE:∀ c,qa f M b r c=(!(xV f.blocks[b].fin c r)&&(M c.toNat r||uj (bY f c.toNat) (nr f c.toNat) b r)):=fun c=>by unfold qa;rw[KB]
      have Bx:=MK (n:=f.blocks.length) (R:=f.aj.length) vV;have Bk:=MK (n:=f.blocks.length) (R:=f.aj.length) xZ;have CO:kC f M b r=M b r->lV f M b r=O b r->wQ f M O b r:=fun h1 h2 _=>⟨h1,h2⟩
      generalize kC f M b r=qb at Jn CM vV Bx CO;generalize lV f M b r=iu at Jn rv CM xZ Bk CO;generalize f.blocks[b]=x at hx bI tH zO hlen qQ UD CM rv sE
      have eT:(gk f b).length<=100000:=by
       rw[Du hx];have:=ur x.fin;omega
      have gN:=hg.to b
      have ET:∀ c∈gk f b,∀ y,f.blocks[c.toNat]? =some y->∀ zQ∈dH y,zQ.args.length=(nr f c.toNat).length:=fun c hc y hy zQ hz=>by
       rw[yF (gN c hc).2];exact(bf.EF hy hz).1
      generalize gk f b=l at jy rv eT gN ET;have rB:=Uy (bJ x.fin) (r:Int);rw[S6] at rB;generalize bJ x.fin=re at rB tH rv;refine ws ?_;refine bD ?_;refine cl tH ?_;refine SS ?_;refine cl rB ?_;refine SS ?_;refine er ?_;refine ag ?_;refine cl jy ?_;refine SS ?_;refine ab (aD (av ?_));refine SS ?_
      refine ab (bG (fun s=>Ghost prog s ⟨ay [(1,.pt (aC f)),(2,.rp 1 0),(3,I f.blocks.length),(4,.rp 2 0),(6,bW CN),(7,bd AL),(8,B t),(9,I b),(10,I r),(11,B iu)],m,nx⟩) (cq (α:=Nat)
       (fun i=>⟨ay [(1,.pt (aC f)),(2,.rp 1 0),(3,I f.blocks.length),(4,.rp 2 0),(6,bW CN),(7,bd AL),(8,B t),(9,I b),(10,I r),(11,B (iL re r||(l.take i).any (qa f M b r))),(12,az l),(13,I i)],m,nx⟩)
       (fun i=>i<=l.length) (fun i=>l.length - i) 0 (ap ⟨rfl,rfl,rfl,rfl,rfl,rfl,rfl,rfl,rfl,by rw[List.take_zero,List.any_nil,Bool.or_false];rfl,rfl,rfl,trivial⟩) (Nat.zero_le _) ?_) ?_)
      .intro i hi;refine aF ?_;refine ab ⟨_,rfl,fun h=>?_,fun h=>?_⟩
       .have fK:i<l.length:=by simpa using h
        have hy:l[i]? =some l[i]:=List.getElem?_eq_getElem fK;have gY:=gN _ (List.getElem_mem fK)
        have U:(iL re r||(l.take (i+1)).any (qa f M b r))=((iL re r||(l.take i).any (qa f M b r))||qa f M b r l[i]):=by
         rw[List.take_add_one,hy,List.any_append,Bool.or_assoc];simp
        have sB:=sE l[i];have vU:=UD l[i] r;have Cw:=ET _ (List.getElem_mem fK);generalize (iL re r||(l.take i).any (qa f M b r))=oo at U ⊢;generalize qa f M b r l[i]=ee at U sB;generalize l[i]=c at hy gY sB vU Cw;obtain⟨cn,rfl⟩:=Int.eq_ofNat_of_zero_le gY.1;rw[Int.toNat_natCast] at gY sB Cw;have KC:f.blocks[cn]? =some f.blocks[cn]:=List.getElem?_eq_getElem gY.2;have alf:f.blocks[cn]∈f.blocks:=List.getElem_mem _;have xW:=xW (a:=(b:Int)) (r:=(r:Int)) KC (Uz gY.2) (bf.blk _ alf).len (Zt bf cn) (Cw _ KC);rw[rK KC] at sB;generalize uj f.blocks[cn] (nr f cn) b r=tk at xW sB;generalize xV x.fin cn r=wr at vU sB;have aq:=C.c2;have bX:=C.i.row;have fe:=C.i.jr cn gY.2;have zX:=GP f.aj.length M cn;have k8:((List.range f.blocks.length).map fun i=>D.rs (ρi i) 0 f.aj.length).length=f.blocks.length:=by simp
        obtain⟨cs1,kd⟩:=GS (ρ:=ρi) (w:=f.aj.length) gY.2;obtain⟨cs2,fh⟩:=Gm (M:=M) (b:=cn) BY;refine iZ Yy ?_;cases oo with
        |true=>
         refine aL ?_;refine gc vU ?_;refine aL ?_;refine aL ?_;refine aF ?_;refine gc xW ?_;refine aF ?_;refine bj (by simp[apartT]) ?_;refine aw ?_;refine ab (aH (i+1) (ap ⟨rfl,rfl,rfl,rfl,rfl,rfl,rfl,rfl,rfl,by rw[U];rfl,rfl,rfl,trivial⟩) oG oG)
        |false=>
         cases wr with
         |true=>
          refine aL ?_;refine gc vU ?_;refine aL ?_;refine aL ?_;refine aF ?_;refine gc xW ?_;refine aF ?_;refine bj (by simp[apartT]) ?_;refine aw ?_;refine ab (aH (i+1) (ap ⟨rfl,rfl,rfl,rfl,rfl,rfl,rfl,rfl,rfl,by rw[U,sB];rfl,rfl,rfl,trivial⟩) oG oG)
         |false=>
          generalize M cn r=mr at fh sB;cases mr with
          |true=>
           refine aL ?_;refine gc vU ?_;refine aL ?_;refine aL ?_;refine aF ?_;refine gc xW ?_;refine aF ?_;refine bj (by simp[apartT]) ?_;refine aw ?_;refine ab (aH (i+1) (ap ⟨rfl,rfl,rfl,rfl,rfl,rfl,rfl,rfl,rfl,by rw[U,sB];rfl,rfl,rfl,trivial⟩) oG oG)
          |false=>
           refine aL ?_;refine gc vU ?_;refine aL ?_;refine aL ?_;refine aF ?_;refine gc xW ?_;refine aF ?_;refine bj (by simp[apartT]) ?_;refine aw ?_;refine ab (aH (i+1) (ap ⟨rfl,rfl,rfl,rfl,rfl,rfl,rfl,rfl,rfl,by rw[U,sB];cases tk<;>rfl,rfl,rfl,trivial⟩) oG oG)
       .have aY:¬ i<l.length:=by simpa using h
        rw[List.take_of_length_le oG, <- rv];exact ap eH
      .clear rv sE;intro s o4;refine⟨_,o4,an ?_⟩;refine ag ?_;refine ab (aD (av ?_));refine aL ?_
       refine ab (bG (fun s=>∃ m nx,Ghost prog s ⟨ay [(1,.pt (aC f)),(2,.rp 1 0),(3,I f.blocks.length),(4,.rp 2 0),(6,bW CN),(7,bd AL),(8,B t),(9,I b),(10,I r),(11,B iu),(14,B qb)],m,nx⟩/\ju m nx ji jo f.blocks.length f.aj.length ρi ρo (dN f.aj.length M) (dN f.aj.length O)) (cq (α:=Nat×Mem×Nat)
        (fun s=>⟨ay [(1,.pt (aC f)),(2,.rp 1 0),(3,I f.blocks.length),(4,.rp 2 0),(6,bW CN),(7,bd AL),(8,B t),(9,I b),(10,I r),(11,B iu),(14,B (sc r iu (x.ins.drop (x.ins.length - s.1)))),(15,I ((x.ins.length:Int) - 1 - s.1))],s.2.1,s.2.2⟩)
        (fun s=>s.1<=x.ins.length/\ju s.2.1 s.2.2 ji jo f.blocks.length f.aj.length ρi ρo (dN f.aj.length M) (dN f.aj.length O)) (fun s=>x.ins.length - s.1) (0,m,nx)
        (ap ⟨rfl,rfl,rfl,rfl,rfl,rfl,rfl,rfl,rfl,rfl,by rw[Nat.sub_zero,List.drop_length];rfl,by show I _=I _;congr 1;omega,trivial⟩) ⟨Nat.zero_le _,C⟩ ?_) ?_)
       .clear C o4;rintro⟨p,m,nx⟩ ⟨hp,C⟩;dsimp only at hp C ⊢;by_cases iT:p<x.ins.length
        .have zi:decide (((x.ins.length:Int) - 1 - p)>=0)=true:=decide_eq_true oG;refine ag ?_;refine ab ⟨_,rfl,fun _=>?_,fun h=>oH⟩;have hk:x.ins.length - (p+1)<x.ins.length:=by omega
         have hy:x.ins[x.ins.length - (p+1)]? =some x.ins[x.ins.length - (p+1)]:=List.getElem?_eq_getElem hk;have gY:x.ins[x.ins.length - (p+1)]∈x.ins:=List.getElem_mem _;have U:=Xr (r:=(r:Int)) (s:=iu) hy;rw[show x.ins.length - (p+1)+1=x.ins.length - p by omega] at U;have hko:(x.ins.length:Int) - 1 - p=((x.ins.length - (p+1):Nat):Int):=by omega
         generalize sc r iu (x.ins.drop (x.ins.length - p))=iv at U ⊢;generalize x.ins[x.ins.length - (p+1)]=y at hy gY U;rw[hko];generalize hq:x.ins.length - (p+1)=q at hy U ⊢;have lJ:=lJ (x:=y);have od:=od (x:=y) (fun ho=>by have:=(qQ y gY).ar ho;omega);have rB:=Uy (bK y) (r:Int);rw[S6] at rB;refine av ?_;refine aL ?_;refine ag ?_;refine ab (DU (l:=[(1,.pt (aC f)),(2,.rp 1 0),(3,I f.blocks.length),(4,.rp 2 0),(6,bW CN),(7,bd AL),(8,B t),(9,I b),(10,I r),(11,B iu),(14,B iv),(15,I q),(16,.rp nx 0)]) ⟨rfl,rfl,rfl,rfl,rfl,rfl,rfl,rfl,rfl,rfl,rfl,rfl,rfl,trivial⟩ fun J X=>?_);have aq:J nx=some (.cells (a8 y) 66):=(by rw[X];first|exact up_same _ _ _|exact af oG (up_same _ _ _)|exact af oG (af oG (up_same _ _ _))|exact af oG (af oG (af oG (up_same _ _ _)))|exact af oG (af oG (af oG (af oG (up_same _ _ _))))|exact af oG (af oG (af oG (af oG (af oG (up_same _ _ _)))))|exact af oG (af oG (af oG (af oG (af oG (af oG (up_same _ _ _))))))|exact af oG (af oG (af oG (af oG (af oG (af oG (af oG (up_same _ _ _))))))))
         have jW:∀ zQ,zQ<nx->J zQ=m zQ:=fun zQ hz=>(by rw[X];first|exact rfl|exact af oG (rfl)|exact af oG (af oG (rfl))|exact af oG (af oG (af oG (rfl)))|exact af oG (af oG (af oG (af oG (rfl))))|exact af oG (af oG (af oG (af oG (af oG (rfl)))))|exact af oG (af oG (af oG (af oG (af oG (af oG (rfl))))))|exact af oG (af oG (af oG (af oG (af oG (af oG (af oG (rfl))))))))
         have jz:=C.ext (m':=J) (nx':=nx+1) jW oG;clear X jW C;generalize bK y=ry at od rB U;generalize iL ry r=ha at rB U
         have Iv:∀ (w:Bool) env,w=sc r iu (x.ins.drop q)->iA [(1,.pt (aC f)),(2,.rp 1 0),(3,I f.blocks.length),(4,.rp 2 0),(6,bW CN),(7,bd AL),(8,B t),(9,I b),(10,I r),(11,B iu),(14,B w),(15,I ((q:Int) - 1))] env->r9 prog (fun s:Nat×Mem×Nat=>(⟨ay [(1,.pt (aC f)),(2,.rp 1 0),(3,I f.blocks.length),(4,.rp 2 0),(6,bW CN),(7,bd AL),(8,B t),(9,I b),(10,I r),(11,B iu),(14,B (sc r iu (x.ins.drop (x.ins.length - s.1)))),(15,I ((x.ins.length:Int) - 1 - s.1))],s.2.1,s.2.2⟩:St))
          (fun s=>s.1<=x.ins.length/\ju s.2.1 s.2.2 ji jo f.blocks.length f.aj.length ρi ρo (dN f.aj.length M) (dN f.aj.length O)) (fun s=>x.ins.length - s.1) (p,m,nx) ⟨env,J,nx+1⟩:=fun w env hw he=>by
          subst hw;refine aH (p+1,J,nx+1) (ap ?_) ⟨by dsimp only;omega,jz⟩ oM;dsimp only;rw[hq,show(x.ins.length:Int) - 1 - ((p+1:Nat):Int)=(q:Int) - 1 by omega];exact he
         by_cases gZ:bM y=r
         .have dI:(bM y==(r:Int))=true:=by simp[gZ]
          rw[dI,if_pos rfl,Bool.false_or] at U;refine aD (an ?_);refine aB (cP (vs:=a8 _) rfl aq V.h V.h rfl) ak (cQ V.h V.h (by first|(simp;done)|omega|exact Nat.le_of_ble_eq_true rfl)) ?_;refine cl lJ ?_;refine ag ?_;refine ab (bC rfl (fun _=>an ?_) fun h=>oH);refine SS ?_;refine ab (dJ ?_);refine ag ?_;refine bm rfl rfl (cP (vs:=a8 _) rfl aq V.h V.h rfl) (fun hc=>⟨ak,(cQ V.h V.h (by first|(simp;done)|omega|exact Nat.le_of_ble_eq_true rfl))⟩) ?_;refine gc od ?_;refine SS ?_;refine gc rB ?_;refine ag ?_;refine ab ?_;refine aw ?_;exact ab (Iv ha _ U.symm ⟨rfl,rfl,rfl,rfl,rfl,rfl,rfl,rfl,rfl,rfl,rfl,rfl,trivial⟩)
         .have dI:(bM y==(r:Int))=false:=by simp[gZ]
          rw[dI,if_neg oS] at U;refine aD (an ?_);refine aB (cP (vs:=a8 _) rfl aq V.h V.h rfl) ak (cQ V.h V.h (by first|(simp;done)|omega|exact Nat.le_of_ble_eq_true rfl)) ?_;refine cl lJ ?_;refine ag ?_;refine ab (bC rfl (fun h=>oH) fun _=>cx (dJ ?_));cases iv with
          |true=>
           refine ag ?_;(iterate 4 refine z fun _ _=>?_);refine ag ?_;refine ab ?_;refine aw ?_;exact ab (Iv true _ U.symm ⟨rfl,rfl,rfl,rfl,rfl,rfl,rfl,rfl,rfl,rfl,rfl,rfl,trivial⟩)
          |false=>
           refine ag ?_;refine bm rfl rfl (cP (vs:=a8 _) rfl aq V.h V.h rfl) (fun hc=>⟨ak,(cQ V.h V.h (by first|(simp;done)|omega|exact Nat.le_of_ble_eq_true rfl))⟩) ?_;refine gc od ?_;refine SS ?_;refine gc rB ?_;refine ag ?_;refine ab ?_;refine aw ?_;exact ab (Iv ha _ U.symm ⟨rfl,rfl,rfl,rfl,rfl,rfl,rfl,rfl,rfl,rfl,rfl,rfl,trivial⟩)
        .have zi:decide (((x.ins.length:Int) - 1 - p)>=0)=false:=decide_eq_false oG;refine ag ?_;refine ab ⟨_,rfl,fun h=>oH,fun _=>?_⟩;have eg:p=x.ins.length:=by omega
         refine⟨m,nx,ap ⟨rfl,rfl,rfl,rfl,rfl,rfl,rfl,rfl,rfl,rfl,?_,trivial⟩,C⟩;rw[CM,eg,Nat.sub_self];rfl
       .clear C o4 CM;rintro s ⟨m,nx,o4,C⟩;refine⟨_,o4,an ?_⟩;have zX:=GP f.aj.length M b;have gX:=GP f.aj.length O b;have k8:∀ ρ:Nat->Nat,((List.range f.blocks.length).map fun i=>D.rs (ρ i) 0 f.aj.length).length=f.blocks.length:=fun _=>by simp
        have alg:=k8 ρi;have alh:=k8 ρo;obtain⟨cs1,V0⟩:=GS (ρ:=ρi) (w:=f.aj.length) lM;obtain⟨cs2,V1⟩:=GS (ρ:=ρo) (w:=f.aj.length) lM;obtain⟨cs3,V2⟩:=Gm (M:=M) (b:=b) BY;obtain⟨cs4,V3⟩:=Gm (M:=O) (b:=b) BY;have Iw:=C.ali (l:=(dN f.aj.length O b).set r (B iu)) lM (by simp[gX]);have S8:=Iw.alj (l:=(dN f.aj.length M b).set r (B qb)) lM (by simp[zX]);rw[GQ] at Iw;rw[GQ,GQ] at S8;have aq:=C.c2;have bX:=C.o.row;have fe:=C.o.jr b lM;have Bu:=C.i.row;have hgi:=C.gi;have JC:=C.go;have aoY:=C.p9 b lM;have aoZ:=C.oZ b lM;have ao0:=C.oj b lM;have ao1:=C.io b b lM lM;have X:=Iw.c2;generalize tL:M b r=vW at V2 vV Bx CO;generalize hor:O b r=vX at V3 xZ Bk CO;have kd:=V1;have fh:=V3;refine aL ?_;refine ag ?_;refine bm rfl rfl (Hq rfl rfl) (fun hc=>⟨ak,V.h⟩) ?_;have bX:=C.i.row;have fe:=C.i.jr b lM;have kd:=V0;have fh:=V2;refine aL ?_;refine ag ?_;refine bm rfl rfl (Hq rfl rfl) (fun hc=>⟨ak,V.h⟩) ?_;refine ag ?_;have bX:=C.o.row;have fe:=C.o.jr b lM;have kd:=V1;refine er ?_;refine cK ?_;refine aB (jG rfl rfl fe V.h V.h) ak ⟨V.h,by omega⟩ ?_;refine cr (gy (d:=.s (.bool _)) (cs':=_) rfl rfl fe rfl rfl) ak (dy V.h V.h (by first|(simp;done)|exact⟨rfl,Nat.le_of_ble_eq_true rfl⟩|(simp;omega)) rfl) ?_;have bX:=C.i.row;have fe:=C.i.jr b lM;have kd:=V0;refine ab (dJ ?_);refine aB (o8 rfl (af oG aq) V.h) ak (m7 V.h) ?_;refine aB (eX rfl (af oG aq) rfl V.h) ak (eY V.h V.h rfl) ?_;refine SS ?_;refine aB (jG rfl rfl (af oG bX) V.h V.h) ak ⟨V.h,by omega⟩ ?_;refine aB (eX rfl (af oG bX) kd V.h) ak (eY V.h V.h kd) ?_;refine ag ?_;refine aB (jG rfl rfl (af oG fe) V.h V.h) ak ⟨V.h,by omega⟩ ?_;refine cr (gy (d:=.s (.bool _)) (cs':=_) rfl rfl (af oG fe) rfl rfl) ak (dy V.h V.h (by first|(simp;done)|exact⟨rfl,Nat.le_of_ble_eq_true rfl⟩|(simp;omega)) rfl) ?_;refine ab ?_;refine aw ?_
        have xK:(if(if t=true then true else(iu !=vX))=true then true else(qb !=vW))=true↔(t=true\/iu≠vX\/qb≠vW):=by
         cases t<;>cases iu<;>cases vX<;>cases qb<;>cases vW<;>simp
        generalize htg:(if(if t=true then true else(iu !=vX))=true then true else(qb !=vW))=tn at xK;refine ab (aH (r+1,gI M b r qb,gI O b r iu,_,nx,tn) (ap ⟨rfl,rfl,rfl,rfl,rfl,rfl,by rw[<- htg];rfl,rfl,rfl,trivial⟩) ⟨by dsimp only;omega,S8,Jn,fun e=>?_,fun e=>?_⟩ oM)
        .dsimp only at e ⊢;have hn:¬ (t=true\/iu≠vX\/qb≠vW):=fun h=>by rw[xK.2 h] at e;cases e
         have oF:t=false:=by
          cases sH:t with
          |false=>rfl
          |true=>exact absurd (.inl sH) hn
         have V4:iu=vX:=Classical.byContradiction fun h=>hn (.inr (.inl h));have xH:qb=vW:=Classical.byContradiction fun h=>hn (.inr (.inr h));obtain⟨e1,e2,e3,e4⟩:=nF oF;have u1:gI M b r qb=M:=by rw[xH, <- tL];exact LZ _ _ _
         have u2:gI O b r iu=O:=by rw[V4, <- hor];exact LZ _ _ _
         rw[u1,u2];refine⟨e1,e2,e3,fun q hq=>?_⟩;by_cases eq:q=r
         .subst eq;have:=CO xH V4;rw[e1,e2] at this;exact this
         .exact e4 q oG
        .dsimp only at e ⊢;have m1:=Bx.1;have m2:=Bk.1;cases sH:t with
         |true=>
          have:=jA sH;omega
         |false=>
          obtain⟨e1,e2,_,_⟩:=nF sH;rw[e1] at m1 Bx ⊢;rw[e2] at m2 Bk ⊢;rcases xK.1 e with h|h|h
          .rw[sH] at h;cases h
          .have:vX=false/\iu=true:=by
            revert h xZ;cases vX<;>cases iu<;>simp
           have:=Bk.2 lM BY this.1 this.2;omega
          .have:vW=false/\qb=true:=by
            revert h vV;cases vW<;>cases qb<;>simp
           have:=Bx.2 lM BY this.1 this.2;omega
     .show AOps _ _ _ _ _ _ _ _ _;have aY:¬ r<f.aj.length:=by simpa using h
      refine aw ?_;exact ab (uJ (.inl aY) _ ⟨rfl,rfl,rfl,rfl,rfl,rfl,rfl,rfl,trivial⟩)
    .have aY:¬ b<f.blocks.length:=by simpa using h
     refine aH (Mb,Ob,mb,nb,tb) (ap eH) ⟨C,sQ,fun e x q hq=>?_⟩ ?_
     .dsimp only at e ⊢;obtain⟨e1,e2,e3⟩:=nF e;rw[e1,e2];by_cases hxb:x<b
      .exact e3 x q hxb hq
      .intro hc;rw[tE,List.getD_eq_getElem?_getD,List.getElem?_eq_none oG] at hc;cases hc
     .dsimp only;rw[if_pos ht];cases sH:tb with
      |false=>
       obtain⟨e1,e2,_⟩:=nF sH;rw[e1,e2];simp
      |true=>have:=jA sH;simp;omega
   .exact⟨M0,O0,m,nx,ap eH,uk,sI,VZ ht⟩
  .clear uk o4;rintro s ⟨M,O,m,nx,o4,C,sQ,nF⟩;obtain⟨hf1,JT⟩:=ahn sQ fun b r hc hr=>nF b r hr hc;have hse:wR f.blocks.length f.aj.length (mN f) (mO f)=wR f.blocks.length f.aj.length M O:=aaG (fun b r hr=>by rw[Bool.eq_iff_iff];exact(hf1 b r hr).symm) (fun b r hr=>by rw[Bool.eq_iff_iff];exact(JT b r hr).symm);rw[hse];refine⟨_,o4.trans (Xs C (fun _=>.map) (fun _=>.map) c4 V5 ⟨rfl,rfl,trivial⟩),an ?_⟩;refine ag ?_;exact ab (aU (iz (iV rfl rfl UE UF rfl t104 (Nat.le_of_ble_eq_true rfl)) rfl))
theorem YA{i sz:Nat}{cs:List D}{e:TypeId}(l:List (List Int)):Row.sub (fz0 i cs sz) (.cells (l.map az) e)=.cells (l.map az) e:=by
 show Row.cells ((l.map az).map _) e=_;rw[List.map_map];rfl
set_option maxHeartbeats 1000000 in
theorem sR{f:aA}(hs:wJ f)(hw:∀ b∈f.blocks,b.fin.aE.length<=9):PCall prog 24 [.agg (aC f)] (Bl f):=by
 have z5:=z5 hs hw
 have aR:Tr (Bl f):=by
  unfold Bl;split
  .exact .tup (.cons (nI _) (.cons (nI _) (.cons (.s _) .nil)))
  .exact .tup (.cons Eh (.cons Eh (.cons (.s _) .nil)))
 refine aX mixed UG (by rw[alk];rfl) (.cons (.agg (gz f)) .nil) aR ?_;rw[alm,aln];unfold Bl;refine av ?_;refine aF ?_;refine ab (aJ (bp [(0,aC f,26)] eH (l:=[(1,.pt (aC f))]) eH) (an ?_));by_cases C:fN f=0
 .rw[C] at z5;rw[if_pos C];have hF:=Bw (KP C);have Fy:=hF.ok.mK;have hR1:=hF.ok.aj;have xY:=xY (KP C) hw;unfold wR at xY;rw[NE,NE] at xY;rw[<- ZI hF.ok, <- Yz hF.ok];have UH:=fun {b:Nat} (h:b<f.blocks.length)=>ND (R:=f.aj.length) (M:=mN f) h;have UI:=fun {b:Nat} (h:b<f.blocks.length)=>ND (R:=f.aj.length) (M:=mO f) h;generalize ((List.range f.blocks.length).map fun b=>(List.range f.aj.length).map (mN f b))=MI at xY UH;generalize ((List.range f.blocks.length).map fun b=>(List.range f.aj.length).map (mO f b))=MO at xY UI;refine SS ?_;refine cl z5 ?_;refine SS ?_;refine ab (aD (an ?_));refine ag ?_;refine ab (bC rfl (fun h=>oH) fun _=>cx (av ?_));refine SS ?_;refine cl xY ?_;refine ag ?_;refine ab (aJ (bp [(1,[.sl (MI.map bW) MI.length,.sl (MO.map bW) MO.length],104)] eH (l:=[(1,.pt (aC f)),(6,.pt [.sl (MI.map bW) MI.length,.sl (MO.map bW) MO.length])]) eH) (av ?_));refine ag ?_;refine ab ⟨_,(Ghost.nilrow _ _ _ 7 27 rfl).trans ((Ghost.nilrow _ _ _ 8 27 rfl).trans (aK (l:=[(1,.pt (aC f)),(6,.pt [.sl (MI.map bW) MI.length,.sl (MO.map bW) MO.length]),(7,.rs 2 0 0),(8,.rs 3 0 0)]) (ml:=[(2,.cells [] 27),(3,.cells [] 27)]) eH eH)),aD (av ?_)⟩;refine SS ?_
  refine ab (bG (fun s=>∃ ji jo m nx,Ghost prog s ⟨ay [(7,.rs ji 0 f.blocks.length),(8,.rs jo 0 f.blocks.length)],m,nx⟩/\ji≠jo/\m ji=some (.cells ((ma f.aj.length (mN f) f.blocks.length).map az) 27)/\m jo=some (.cells ((ma f.aj.length (mO f) f.blocks.length).map az) 27)) (cq (α:=Nat×Nat×Nat×Mem×Nat)
   (fun s=>⟨ay [(1,.pt (aC f)),(6,.pt [.sl (MI.map bW) MI.length,.sl (MO.map bW) MO.length]),(7,.rs s.2.1 0 s.1),(8,.rs s.2.2.1 0 s.1),(9,I s.1)],s.2.2.2.1,s.2.2.2.2⟩)
   (fun s=>s.1<=f.blocks.length/\s.2.1≠s.2.2.1/\s.2.1<s.2.2.2.2/\s.2.2.1<s.2.2.2.2/\s.2.2.2.1 s.2.1=some (.cells ((ma f.aj.length (mN f) s.1).map az) 27)/\s.2.2.2.1 s.2.2.1=some (.cells ((ma f.aj.length (mO f) s.1).map az) 27)) (fun s=>f.blocks.length - s.1) (0,2,3,a9 [(2,.cells [] 27),(3,.cells [] 27)],4)
   (ap eH) ⟨Nat.zero_le _,by decide,by decide,by decide,rfl,rfl⟩ ?_) ?_)
  .rintro⟨k,ji,jo,m,nx⟩ ⟨hk,X,cv,hjo,aq,bX⟩;dsimp only at hk X cv hjo aq bX ⊢;refine aV ?_;refine ab ⟨_,rfl,fun h=>?_,fun h=>?_⟩
   .have ao:k<f.blocks.length:=by simpa using h
    have FC:=UH ao;have gq:=UI ao;have ki:=xX (l:=(List.range f.aj.length).map (mN f k)) oP;have ko:=xX (l:=(List.range f.aj.length).map (mO f k)) oP;rw[Yv] at ki ko;have cw:=K0 f.aj.length (mN f) k;have zZ:=K0 f.aj.length (mO f) k;have U:=C' f.aj.length (mN f) k;have J:=C' f.aj.length (mO f) k;generalize wP f.aj.length (mN f k)=vi at ki cw;generalize wP f.aj.length (mO f k)=vo at ko zZ;generalize (List.range f.aj.length).map (mN f k)=bi at ki FC;generalize (List.range f.aj.length).map (mO f k)=bo at ko gq;generalize ma f.aj.length (mN f) k=Li at aq cw U;generalize ma f.aj.length (mO f) k=Lo at bX zZ J;have alg:(Li.map az).length=k:=by rw[List.length_map];exact U
    have alh:(Lo.map az).length=k:=by rw[List.length_map];exact J
    have xX:=ki;refine av ?_;refine bD ?_;refine cl xX ?_;refine aw ?_;refine ab (DU (l:=[(1,.pt (aC f)),(6,.pt [.sl (MI.map bW) MI.length,.sl (MO.map bW) MO.length]),(7,.rs (nx+1) 0 (k+1)),(8,.rs jo 0 k),(9,I k)]) ⟨rfl,rfl,rfl,rfl,rfl,trivial⟩ fun M1 jB=>?_);have f1:M1 (nx+1)=some (.cells (Li.map az++[az vi]) 27):=by rw[jB];first|exact up_same _ _ _|exact af oG (up_same _ _ _)
    have f2:M1 jo=some (.cells (Lo.map az) 27):=by
     rw[jB]
     first|exact af oG (af oG (af oG bX))|exact af oG (af oG bX)
    clear jB aq bX xX;have aq:=f2;have xX:=ko;refine dJ ?_;refine bD ?_;refine cl xX ?_;refine aw ?_;refine ab ?_;refine aw ?_;refine ab (GR (l:=[(1,.pt (aC f)),(6,.pt [.sl (MI.map bW) MI.length,.sl (MO.map bW) MO.length]),(7,.rs (nx+1) 0 (k+1)),(8,.rs (nx+3) 0 (k+1)),(9,I ((k+1:Nat):Int))]) ⟨rfl,rfl,rfl,rfl,rfl,trivial⟩ fun M2 jz=>?_)
    have g1:M2 (nx+1)=some (.cells (Li.map az++[az vi]) 27):=by
     rw[jz]
     first|exact af oG (af oG (af oG f1))|exact af oG (af oG f1)
    have g2:M2 (nx+3)=some (.cells (Lo.map az++[az vo]) 27):=by rw[jz];first|exact up_same _ _ _|exact af oG (up_same _ _ _)
    refine aH (k+1,nx+1,nx+3,M2,nx+4) (.refl _) ⟨by dsimp only;omega,by dsimp only;omega,by dsimp only;omega,by dsimp only;omega,?_,?_⟩ oM
    .dsimp only;rw[cw];exact g1
    .dsimp only;rw[zZ];exact g2
   .have aY:¬ k<f.blocks.length:=by simpa using h
    have:k=f.blocks.length:=by omega
    subst this;exact⟨ji,jo,m,nx,ap eH,X,aq,bX⟩
  .rintro s ⟨ji,jo,m,nx,o4,X,aq,bX⟩;have U:=C' f.aj.length (mN f) f.blocks.length;have J:=C' f.aj.length (mO f) f.blocks.length;generalize ma f.aj.length (mN f) f.blocks.length=Li at aq U ⊢;generalize ma f.aj.length (mO f) f.blocks.length=Lo at bX J ⊢
   refine⟨_,o4.trans ((kF (i:=ji) (l:=[(7,bd Li),(8,.rs jo 0 f.blocks.length)]) (ml:=[(jo,.cells (Lo.map az) 27)]) aq ⟨?_,qe fun e=>X e.symm,trivial⟩ ⟨?_,trivial⟩).trans
    (mR (i:=jo) (l:=[(7,bd Li),(8,bd Lo)]) (if_pos rfl) ⟨rfl,?_,trivial⟩)),an ?_⟩
   .show sub _ (D.rs ji 0 f.blocks.length)=_;rw[gv (by rw[sK];simp[U])];unfold bd;rw[U]
   .dsimp only;rw[if_neg (show ¬ jo=ji from fun e=>X e.symm),bX,Option.map_some,YA]
   .show sub _ (D.rs jo 0 f.blocks.length)=_;rw[gv (by rw[sK];simp[J])];unfold bd;rw[J]
   refine aV ?_;exact ab (DP rfl rfl rfl rfl)
 .rw[if_neg C];generalize fN f=ce at C z5 ⊢;have lG:(ce !=0)=true:=by simp[C]
  refine SS ?_;refine cl z5 ?_;refine SS ?_;refine ab (aD (an ?_));refine ag ?_;refine ab (bC rfl (fun _=>?_) fun h=>oH);refine aD (an ?_);refine aF ?_;exact ab (dx (DP rfl rfl rfl rfl))
theorem k4{f:aA}(hs:wJ f)(Ci:PCall prog 17 [] (B true)):PCall prog 4 [.agg (aC f)] (B true):=by
 have CB:=CB (f:=f);refine aX mixed V6 (by rw[nt4];rfl) (.cons (.agg (gz f)) .nil) (Tr.s _) ?_;have U:pN f=true->_:=Ys;generalize pN f=fb at CB U;rw[rs4,sk4];refine av ?_;refine ag ?_;refine ab (aJ (bp [(0,aC f,26)] eH (l:=[(1,.pt (aC f))]) eH) (aD (an ?_)));refine SS ?_;refine cl CB ?_;refine SS ?_;refine ab (bC rfl (fun h=>?_) fun h=>cx (an ?_))
 .refine aD (an ?_);refine cl Ci ?_;refine SS ?_;exact ab (dx (ax rfl rfl))
 have hw:=U (by revert h;cases fb<;>simp);clear h CB U;have sR:=sR hs hw;unfold Bl at sR;by_cases J:fN f=0
 .have C:=abp J;rw[if_pos J] at sR;have vS:=Uu (l:=wq f);have X:=Uu (l:=wg f);generalize wq f=li at C sR vS;generalize wg f=lo at C sR X;refine SS ?_;refine cl C ?_;refine cK ?_;refine er ?_;refine SS ?_;refine cl sR ?_;refine cK ?_;refine er ?_;refine cl Ci ?_;refine aw ?_;refine gc vS ?_;refine aF ?_;refine gc X ?_;refine cK ?_;exact ab (ax rfl (congrArg B oS))
 .have C:=aav J;rw[if_neg J] at sR;generalize fN f=ce at C sR;have vS:=akX;refine SS ?_;refine cl C ?_;refine cK ?_;refine er ?_;refine SS ?_;refine cl sR ?_;refine cK ?_;refine er ?_;refine cl Ci ?_;refine aw ?_;refine gc vS ?_;refine aF ?_;refine gc vS ?_;refine cK ?_;exact ab (ax rfl (congrArg B oS))
end Go.Proofs.Tryz.K
namespace Go.Proofs.Tryz.K
theorem aan{f:aA}(C:wJ f):PCall prog 4 [.agg (aC f)] (B true):=k4 C Ci
end Go.Proofs.Tryz.K
end
