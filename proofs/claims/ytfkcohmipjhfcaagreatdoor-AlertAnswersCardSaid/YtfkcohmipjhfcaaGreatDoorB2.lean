/- A part of the proofs of statements of this seat: contracts of functions, and the plain laws that they lean on. No conditions. -/
import Derived.Test.YtfkcohmipjhfcaaGreatDoorB1
import Derived.Laws.StructEq
import Derived.ChangeKeysEq
import Derived.ScopeJumps
set_option linter.unusedVariables false
set_option linter.unusedSimpArgs false
set_option linter.unusedSectionVars false
namespace Go.Sl
variable{T b by' d dd fuel i n stop sz:Nat}{E M aa ab ad ae ah ai aj ak an ao aq c0 c1 c2 c3 c4 c5 c6 e0 e1 e2 e3 e4 e5 e6 v v0 v1 v2 v3 v4 v5 v6 v7 v8 v9:Value}{x y:Operand}{cs z:List Value}{U:TypeId}{m:Int}{I' I1:List Item}{ag:Bool}{L1:Env}
section
variable {P:Program}{κ:Ctx}{N:Frm}{Q:Exit->Act->World->Prop}{L:Env}{I J:List Item}{ops:Array Oper}{o:Oper}{rest:List Oper}{q:Op}{ty:TypeId}{ps:String}{af:Array Edge}{gd:Option (Nat×Bool)}
theorem Gr(M:j0 P κ N ⟨some d,q,ty,ps,af,none⟩ L I v)(h:G P κ N ops Q rest ((d,v)::L) I)(E:Nat.blt d N.n=true:=by exact rfl):G P κ N ops Q (⟨some d,q,ty,ps,af,none⟩::rest) L I:=G.read (p8.plain rfl) rfl E M h
theorem Gm(M:ep L x=some v)(h:G P κ N ops Q rest ((d,v)::L) I)(E:Nat.blt d N.n=true:=by exact rfl):G P κ N ops Q (⟨some d,.move x,ty,ps,af,none⟩::rest) L I:=Gr (j0.move M) h E
theorem Ga(M:ep L x=some v)(h:G P κ N ops Q rest ((d,v)::L) I)(E:Nat.blt d N.n=true:=by exact rfl):G P κ N ops Q (⟨some d,.assign x,ty,ps,af,none⟩::rest) L I:=Gr (j0.assign M) h E
theorem e9(M:j0 P κ N ⟨some d,q,ty,ps,af,gd⟩ L I v)(h:G P κ N ops Q rest ((d,v)::L) I)(E:p8 N ops ⟨some d,q,ty,ps,af,gd⟩ L:=by exact p8.on rfl rfl rfl)(hN:Nat.blt d N.n=true:=by exact rfl):G P κ N ops Q (⟨some d,q,ty,ps,af,gd⟩::rest) L I:=G.read E rfl hN M h
theorem ee(h:G P κ N ops Q rest ((d,undef)::L) I)(E:y4 N ops ⟨some d,q,ty,ps,af,gd⟩ L:=by exact y4.und rfl rfl rfl)(M:Nat.blt d N.n=true:=by exact rfl):G P κ N ops Q (⟨some d,q,ty,ps,af,gd⟩::rest) L I:=G.pass E rfl M h
theorem eb(h:G P κ N ops Q rest ((d,undef)::L) I)(E:y4 N ops ⟨some d,q,ty,ps,af,gd⟩ L:=by exact y4.off rfl rfl rfl)(M:Nat.blt d N.n=true:=by exact rfl):G P κ N ops Q (⟨some d,q,ty,ps,af,gd⟩::rest) L I:=G.pass E rfl M h
theorem V.nx{σ:Type}{Lv:σ->Env}{Iv:σ->List Item}{p:σ->Prop}{μ:σ->Nat}{s:σ}(M:σ)(E:p M)(hlt:μ M<μ s:=by (try dsimp only);omega)
  (hL:Sub L (Lv M):=by repeat (first|exact Sub.nil|refine Sub.cons rfl ?_|refine Sub.cons fi7 ?_|refine Sub.cons (fi6 rfl<|by first|rfl|simp) ?_)) (hI:Fit κ I (Iv M):=by (try dsimp only);exact Fit.s) :
  V κ N (Exit.then (fq8 κ N Lv Iv p μ s) Q) .normal L I:=V.next M E hlt hL hI
theorem V.mi{σ:Type}{Lv:σ->Env}{Iv:σ->List Item}{p:σ->Prop}(s:σ)(M:p s)
  (hL:Sub L (Lv s):=by repeat (first|exact Sub.nil|refine Sub.cons rfl ?_|refine Sub.cons fi7 ?_|refine Sub.cons (fi6 rfl<|by first|rfl|simp) ?_)) (hI:Fit κ I (Iv s):=by (try dsimp only);exact Fit.s) :
  V κ N (Exit.then (gv1 κ N Lv Iv p) Q) .normal L I:=V.mid s M hL hI
theorem Dr{M:Array Bool}(i:Nat)(hi:ops[i]? = some ⟨some d,q,ty,ps,af,gd⟩)(E:j0 P κ N ⟨some d,q,ty,ps,af,gd⟩ L J v)(h:D P κ N ops Q J stop fuel (M.setIfInBounds i true) ((d,v)::L) I)(hw:p8 N ops ⟨some d,q,ty,ps,af,gd⟩ L:=by exact p8.plain rfl)
  (hN:Nat.blt d N.n=true:=by exact rfl) (aa:Region.noSelect ops=true:=by kernel_rfl) (hf:Region.free .any ops M i=true:=by kernel_rfl)
  (hr:(Region.ready .any ops M).contains i=true:=by kernel_rfl) (ad:Nat.beq i stop=false:=by exact rfl) (ab:P7 .any ops stop i=true:=by kernel_rfl)
  (hQ:∀c a u w,Q (.panic c) (a.put (some d) u) w->Q (.panic c) a w:=by exact λ_ _ _ _ h=>h) (hJ:Fit κ I J:=by first|((repeat (first|exact Fit.refl _|apply Fit.tail|exact Fit.au8 _ _|apply Fit.di0));done)|(refine Fit.H8 ?_;(repeat (first|exact Jm _|apply List.Sublist.cons_cons|apply List.Sublist.cons|exact Gv _ _));done)|(refine Fit.sp ?_;(repeat (first|exact Sp.refl _|refine Sp.pick ta2 ?_|apply Sp.skip|exact Sp.au8 _ _));done)):D P κ N ops Q J stop (fuel+1) M L I:=D.read i hi aa hf hr ad ab hQ hw rfl hN hJ E h
theorem Dro{M:Array Bool}(i:Nat)(hi:ops[i]? = some ⟨some d,q,ty,ps,af,gd⟩)(E:j0 P κ N ⟨some d,q,ty,ps,af,gd⟩ L J v)(h:D P κ N ops Q J stop fuel (M.setIfInBounds i true) ((d,v)::L) I)(hw:p8 N ops ⟨some d,q,ty,ps,af,gd⟩ L:=by exact p8.on rfl rfl rfl)
  (hN:Nat.blt d N.n=true:=by exact rfl) (aa:Region.noSelect ops=true:=by kernel_rfl) (hf:Region.free .any ops M i=true:=by kernel_rfl)
  (hr:(Region.ready .any ops M).contains i=true:=by kernel_rfl) (ad:Nat.beq i stop=false:=by exact rfl) (ab:P7 .any ops stop i=true:=by kernel_rfl)
  (hQ:∀c a u w,Q (.panic c) (a.put (some d) u) w->Q (.panic c) a w:=by exact λ_ _ _ _ h=>h) (hJ:Fit κ I J:=by first|((repeat (first|exact Fit.refl _|apply Fit.tail|exact Fit.au8 _ _|apply Fit.di0));done)|(refine Fit.H8 ?_;(repeat (first|exact Jm _|apply List.Sublist.cons_cons|apply List.Sublist.cons|exact Gv _ _));done)|(refine Fit.sp ?_;(repeat (first|exact Sp.refl _|refine Sp.pick ta2 ?_|apply Sp.skip|exact Sp.au8 _ _));done)):D P κ N ops Q J stop (fuel+1) M L I:=D.read i hi aa hf hr ad ab hQ hw rfl hN hJ E h
theorem Dpu{M:Array Bool}(i:Nat)(hi:ops[i]? = some ⟨some d,q,ty,ps,af,gd⟩)(h:D P κ N ops Q J stop fuel (M.setIfInBounds i true) ((d,undef)::L) I)(hw:y4 N ops ⟨some d,q,ty,ps,af,gd⟩ L:=by exact y4.und rfl rfl rfl)
  (hN:Nat.blt d N.n=true:=by exact rfl) (aa:Region.noSelect ops=true:=by kernel_rfl) (hf:Region.free .any ops M i=true:=by kernel_rfl)
  (hr:(Region.ready .any ops M).contains i=true:=by kernel_rfl) (E:Nat.beq i stop=false:=by exact rfl) (ab:P7 .any ops stop i=true:=by kernel_rfl)
  (hQ:∀c a u w,Q (.panic c) (a.put (some d) u) w->Q (.panic c) a w:=by exact λ_ _ _ _ h=>h) (hJ:Fit κ I J:=by first|((repeat (first|exact Fit.refl _|apply Fit.tail|exact Fit.au8 _ _|apply Fit.di0));done)|(refine Fit.H8 ?_;(repeat (first|exact Jm _|apply List.Sublist.cons_cons|apply List.Sublist.cons|exact Gv _ _));done)|(refine Fit.sp ?_;(repeat (first|exact Sp.refl _|refine Sp.pick ta2 ?_|apply Sp.skip|exact Sp.au8 _ _));done)):D P κ N ops Q J stop (fuel+1) M L I:=D.pass i hi aa hf hr E ab hQ hw rfl hN hJ h
theorem Dpo{M:Array Bool}(i:Nat)(hi:ops[i]? = some ⟨some d,q,ty,ps,af,gd⟩)(h:D P κ N ops Q J stop fuel (M.setIfInBounds i true) ((d,undef)::L) I)(hw:y4 N ops ⟨some d,q,ty,ps,af,gd⟩ L:=by exact y4.off rfl rfl rfl)
  (hN:Nat.blt d N.n=true:=by exact rfl) (aa:Region.noSelect ops=true:=by kernel_rfl) (hf:Region.free .any ops M i=true:=by kernel_rfl)
  (hr:(Region.ready .any ops M).contains i=true:=by kernel_rfl) (E:Nat.beq i stop=false:=by exact rfl) (ab:P7 .any ops stop i=true:=by kernel_rfl)
  (hQ:∀c a u w,Q (.panic c) (a.put (some d) u) w->Q (.panic c) a w:=by exact λ_ _ _ _ h=>h) (hJ:Fit κ I J:=by first|((repeat (first|exact Fit.refl _|apply Fit.tail|exact Fit.au8 _ _|apply Fit.di0));done)|(refine Fit.H8 ?_;(repeat (first|exact Jm _|apply List.Sublist.cons_cons|apply List.Sublist.cons|exact Gv _ _));done)|(refine Fit.sp ?_;(repeat (first|exact Sp.refl _|refine Sp.pick ta2 ?_|apply Sp.skip|exact Sp.au8 _ _));done)):D P κ N ops Q J stop (fuel+1) M L I:=D.pass i hi aa hf hr E ab hQ hw rfl hN hJ h
theorem Ds1{M:Array Bool}(i:Nat)(h:Step P κ N ops Q J stop fuel M L I i)(hr:Region.ready .any ops M=[i]:=by kernel_rfl)(E:([i]==[stop])=false:=by exact rfl):D P κ N ops Q J stop (fuel+1) M L I:=D.step hr rfl E (gx6 h)
theorem Se{M:Array Bool}{R:Env->List Item->Prop}(hi:ops[i]? = some o)(E:Eff P κ N Q o L I R)(h:∀L' I',R L' I'->Fit κ I' J/\D P κ N ops Q J stop fuel (M.setIfInBounds i true) L' I')(hw:p8 N ops o L:=by first|exact p8.plain rfl|exact p8.on rfl rfl rfl):Step P κ N ops Q J stop fuel M L I i:=Step.eff hi hw E h
theorem Sr{M:Array Bool}(hi:ops[i]? = some ⟨some d,q,ty,ps,af,gd⟩)(hr:j0 P κ N ⟨some d,q,ty,ps,af,gd⟩ L I v)(E:Fit κ I J)(h:D P κ N ops Q J stop fuel (M.setIfInBounds i true) ((d,v)::L) I)(hw:p8 N ops ⟨some d,q,ty,ps,af,gd⟩ L:=by first|exact p8.plain rfl|exact p8.on rfl rfl rfl)(hN:Nat.blt d N.n=true:=by exact rfl):Step P κ N ops Q J stop fuel M L I i:=Step.read hi hw rfl hN hr E h
theorem Ae{M:Array Bool}(i:Nat){R:Env->List Item->Prop}(hi:ops[i]? = some o)(he:Eff P κ N Q o L I R)(h:∀L' I',R L' I'->A P κ N ops Q fuel (M.setIfInBounds i true) L' I')(hw:p8 N ops o L:=by first|exact p8.plain rfl|exact p8.on rfl rfl rfl)(E:Region.ready .any ops M=[i]:=by kernel_rfl):A P κ N ops Q (fuel+1) M L I:=A.eff E hi hw he h
theorem Gf{k off o:Nat}(h:Q4 P T k=some off)(hx:ep L x=some (.pointer (some ⟨b,o,none⟩)))(M:G P κ N ops Q rest ((d,.pointer (some ⟨b,o+off,none⟩))::L) I)(E:Nat.blt d N.n=true:=by exact rfl):G P κ N ops Q (⟨some d,.fieldAddr T x k,ty,ps,af,none⟩::rest) L I:=Gr (j0.fieldAddr h hx) M E
theorem Gl{o E:Nat}(hT:tyF P T=some (sz,false,by',z))(h:G P κ N ops Q rest ((d,v)::L) I)(hx:ep L x=some (.pointer (some ⟨b,o,none⟩)):=by exact rfl)
  (hb:e8 b cs E∈I:=by repeat (first|exact C_|apply Fv)) (M:cs[o]? = some v:=by exact rfl) (hN:Nat.blt d N.n=true:=by exact rfl):G P κ N ops Q (⟨some d,.load T x,ty,ps,af,none⟩::rest) L I:=Gr (j0.load hT hx hb M) h hN
theorem Rad{d:Option Tmp}{T:TypeId}{n:Int}(E:ep L x=some (e7 m))(hy:ep L y=some (e7 n))(M:InR (m+n):=by unfold InR;omega):j0 P κ N ⟨d,.binOp .add T x y U,ty,ps,af,gd⟩ L J (e7 (m+n)):=j0.add E hy M
theorem Rsu{d:Option Tmp}{T:TypeId}{n:Int}(E:ep L x=some (e7 m))(hy:ep L y=some (e7 n))(M:InR (m - n):=by unfold InR;omega):j0 P κ N ⟨d,.binOp .sub T x y U,ty,ps,af,gd⟩ L J (e7 (m - n)):=j0.sub E hy M
theorem mm{x:Item}(h:x∈I:=by repeat (first|exact C_|apply Fv)):x∈I:=h
theorem am{x y:Item}(h:At I x y I':=by repeat (first|exact At.head _ _ _|apply At.tail)):At I x y I':=h
theorem f1(h:Fit κ I J:=by repeat (first|exact Fit.one|apply Fit.tail)):Fit κ I J:=h
theorem om{p:Prop}(h:p:=by omega):p:=h
theorem oo{p:Prop}(h:p:=by first|omega|(simp only [Gd];omega)):p:=h
theorem Gl2{o E:Nat}(hT:tyF P T=some (sz,true,by',z))(h:G P κ N ops Q rest ((d,.agg #[M,v1])::L) I)(hx:ep L x=some (.pointer (some ⟨b,o,none⟩)):=by exact rfl)
  (hb:e8 b cs E∈I:=by repeat (first|exact C_|apply Fv)) (hc:(cs.drop o).take sz=[M,v1]:=by exact rfl) (hl:[M,v1].length=sz:=by exact rfl) (hN:Nat.blt d N.n=true:=by exact rfl):G P κ N ops Q (⟨some d,.load T x,ty,ps,af,none⟩::rest) L I:=Gr (j0.ao4 hT hx hb hc hl) h hN
theorem Gl3{o E:Nat}(hT:tyF P T=some (sz,true,by',z))(h:G P κ N ops Q rest ((d,.agg #[M,v1,v2])::L) I)(hx:ep L x=some (.pointer (some ⟨b,o,none⟩)):=by exact rfl)
  (hb:e8 b cs E∈I:=by repeat (first|exact C_|apply Fv)) (hc:(cs.drop o).take sz=[M,v1,v2]:=by exact rfl) (hl:[M,v1,v2].length=sz:=by exact rfl) (hN:Nat.blt d N.n=true:=by exact rfl):G P κ N ops Q (⟨some d,.load T x,ty,ps,af,none⟩::rest) L I:=Gr (j0.ao4 hT hx hb hc hl) h hN
theorem Gl4{o E:Nat}(hT:tyF P T=some (sz,true,by',z))(h:G P κ N ops Q rest ((d,.agg #[M,v1,v2,v3])::L) I)(hx:ep L x=some (.pointer (some ⟨b,o,none⟩)):=by exact rfl)
  (hb:e8 b cs E∈I:=by repeat (first|exact C_|apply Fv)) (hc:(cs.drop o).take sz=[M,v1,v2,v3]:=by exact rfl) (hl:[M,v1,v2,v3].length=sz:=by exact rfl) (hN:Nat.blt d N.n=true:=by exact rfl):G P κ N ops Q (⟨some d,.load T x,ty,ps,af,none⟩::rest) L I:=Gr (j0.ao4 hT hx hb hc hl) h hN
theorem Gl6{o E:Nat}(hT:tyF P T=some (sz,true,by',z))(h:G P κ N ops Q rest ((d,.agg #[M,v1,v2,v3,v4,v5])::L) I)(hx:ep L x=some (.pointer (some ⟨b,o,none⟩)):=by exact rfl)
  (hb:e8 b cs E∈I:=by repeat (first|exact C_|apply Fv)) (hc:(cs.drop o).take sz=[M,v1,v2,v3,v4,v5]:=by exact rfl) (hl:[M,v1,v2,v3,v4,v5].length=sz:=by exact rfl) (hN:Nat.blt d N.n=true:=by exact rfl):G P κ N ops Q (⟨some d,.load T x,ty,ps,af,none⟩::rest) L I:=Gr (j0.ao4 hT hx hb hc hl) h hN
theorem Gl7{o E:Nat}(hT:tyF P T=some (sz,true,by',z))(h:G P κ N ops Q rest ((d,.agg #[M,v1,v2,v3,v4,v5,v6])::L) I)(hx:ep L x=some (.pointer (some ⟨b,o,none⟩)):=by exact rfl)
  (hb:e8 b cs E∈I:=by repeat (first|exact C_|apply Fv)) (hc:(cs.drop o).take sz=[M,v1,v2,v3,v4,v5,v6]:=by exact rfl) (hl:[M,v1,v2,v3,v4,v5,v6].length=sz:=by exact rfl) (hN:Nat.blt d N.n=true:=by exact rfl):G P κ N ops Q (⟨some d,.load T x,ty,ps,af,none⟩::rest) L I:=Gr (j0.ao4 hT hx hb hc hl) h hN
theorem gv7{o E:Nat}{c0 c1 e0 e1:Value}{I':List Item}(hT:tyF P T=some (sz,ag,by',z))(hx:ep L x=some (.pointer (some ⟨b,o,none⟩)):=by exact rfl)(hy:ep L y=some v:=by exact rfl)
  (hv:cellsOf v=[M,v1]:=by exact rfl) (hl:[M,v1].length=sz:=by exact rfl) (h1:z6 [M,v1]:=by repeat (first|exact z6.nil|refine z6.cons rfl ?_)) (aa:At I (e8 b [c0,c1] E) (e8 b [e0,e1] E) I':=by repeat (first|exact At.head _ _ _|apply At.tail)) (hr:o+[M,v1].length<=[c0,c1].length:=by exact Ji rfl) (ab:[c0,c1].take o++[M,v1]++[c0,c1].drop (o+[M,v1].length)=[e0,e1]:=by exact rfl) :
  Eff P κ N Q ⟨none,.store T x y,ty,ps,af,gd⟩ L I λL' I''=>L'=L/\I''=I':=Eff.st hT hx hy hv hl h1 aa hr ab
theorem gv5{o E:Nat}{c0 c1 c2 c3 c4 c5 e0 e1 e2 e3 e4 e5:Value}{I':List Item}(hT:tyF P T=some (sz,ag,by',z))(hx:ep L x=some (.pointer (some ⟨b,o,none⟩)):=by exact rfl)(hy:ep L y=some v:=by exact rfl)
  (hv:cellsOf v=[M,v1,v2,v3,v4,v5]:=by exact rfl) (hl:[M,v1,v2,v3,v4,v5].length=sz:=by exact rfl) (h1:z6 [M,v1,v2,v3,v4,v5]:=by repeat (first|exact z6.nil|refine z6.cons rfl ?_)) (ab:At I (e8 b [c0,c1,c2,c3,c4,c5] E) (e8 b [e0,e1,e2,e3,e4,e5] E) I':=by repeat (first|exact At.head _ _ _|apply At.tail)) (hr:o+[M,v1,v2,v3,v4,v5].length<=[c0,c1,c2,c3,c4,c5].length:=by exact Ji rfl) (aa:[c0,c1,c2,c3,c4,c5].take o++[M,v1,v2,v3,v4,v5]++[c0,c1,c2,c3,c4,c5].drop (o+[M,v1,v2,v3,v4,v5].length)=[e0,e1,e2,e3,e4,e5]:=by exact rfl) :
  Eff P κ N Q ⟨none,.store T x y,ty,ps,af,gd⟩ L I λL' I''=>L'=L/\I''=I':=Eff.st hT hx hy hv hl h1 ab hr aa
theorem gv8{o E:Nat}{c0 c1 e0 e1:Value}{I':List Item}(hT:tyF P T=some (sz,ag,by',z))(hx:ep L x=some (.pointer (some ⟨b,o,none⟩)):=by exact rfl)(hy:ep L y=some v:=by exact rfl)
  (hv:cellsOf v=[M]:=by exact rfl) (hl:[M].length=sz:=by exact rfl) (h1:z6 [M]:=by repeat (first|exact z6.nil|refine z6.cons rfl ?_)) (aa:At I (e8 b [c0,c1] E) (e8 b [e0,e1] E) I':=by repeat (first|exact At.head _ _ _|apply At.tail)) (hr:o+[M].length<=[c0,c1].length:=by exact Ji rfl) (ab:[c0,c1].take o++[M]++[c0,c1].drop (o+[M].length)=[e0,e1]:=by exact rfl) :
  Eff P κ N Q ⟨none,.store T x y,ty,ps,af,gd⟩ L I λL' I''=>L'=L/\I''=I':=Eff.st hT hx hy hv hl h1 aa hr ab
theorem gv4{o E:Nat}{c0 c1 c2 c3 c4 c5 c6 e0 e1 e2 e3 e4 e5 e6:Value}{I':List Item}(hT:tyF P T=some (sz,ag,by',z))(hx:ep L x=some (.pointer (some ⟨b,o,none⟩)):=by exact rfl)(hy:ep L y=some v:=by exact rfl)
  (hv:cellsOf v=[M]:=by exact rfl) (hl:[M].length=sz:=by exact rfl) (h1:z6 [M]:=by repeat (first|exact z6.nil|refine z6.cons rfl ?_)) (ab:At I (e8 b [c0,c1,c2,c3,c4,c5,c6] E) (e8 b [e0,e1,e2,e3,e4,e5,e6] E) I':=by repeat (first|exact At.head _ _ _|apply At.tail)) (hr:o+[M].length<=[c0,c1,c2,c3,c4,c5,c6].length:=by exact Ji rfl) (aa:[c0,c1,c2,c3,c4,c5,c6].take o++[M]++[c0,c1,c2,c3,c4,c5,c6].drop (o+[M].length)=[e0,e1,e2,e3,e4,e5,e6]:=by exact rfl) :
  Eff P κ N Q ⟨none,.store T x y,ty,ps,af,gd⟩ L I λL' I''=>L'=L/\I''=I':=Eff.st hT hx hy hv hl h1 ab hr aa
theorem gv6{o E:Nat}{c0 c1 c2 c3 c4 e0 e1 e2 e3 e4:Value}{I':List Item}(hT:tyF P T=some (sz,ag,by',z))(hx:ep L x=some (.pointer (some ⟨b,o,none⟩)):=by exact rfl)(hy:ep L y=some v:=by exact rfl)
  (hv:cellsOf v=[M,v1,v2,v3,v4]:=by exact rfl) (hl:[M,v1,v2,v3,v4].length=sz:=by exact rfl) (h1:z6 [M,v1,v2,v3,v4]:=by repeat (first|exact z6.nil|refine z6.cons rfl ?_)) (ab:At I (e8 b [c0,c1,c2,c3,c4] E) (e8 b [e0,e1,e2,e3,e4] E) I':=by repeat (first|exact At.head _ _ _|apply At.tail)) (hr:o+[M,v1,v2,v3,v4].length<=[c0,c1,c2,c3,c4].length:=by exact Ji rfl) (aa:[c0,c1,c2,c3,c4].take o++[M,v1,v2,v3,v4]++[c0,c1,c2,c3,c4].drop (o+[M,v1,v2,v3,v4].length)=[e0,e1,e2,e3,e4]:=by exact rfl) :
  Eff P κ N Q ⟨none,.store T x y,ty,ps,af,gd⟩ L I λL' I''=>L'=L/\I''=I':=Eff.st hT hx hy hv hl h1 ab hr aa
theorem gv3{o E:Nat}{c0 c1 c2 c3 c4 c5 c6 e0 e1 e2 e3 e4 e5 e6:Value}{I':List Item}(hT:tyF P T=some (sz,ag,by',z))(hx:ep L x=some (.pointer (some ⟨b,o,none⟩)):=by exact rfl)(hy:ep L y=some v:=by exact rfl)
  (hv:cellsOf v=[M,v1,v2,v3,v4,v5,v6]:=by exact rfl) (hl:[M,v1,v2,v3,v4,v5,v6].length=sz:=by exact rfl) (h1:z6 [M,v1,v2,v3,v4,v5,v6]:=by repeat (first|exact z6.nil|refine z6.cons rfl ?_)) (ab:At I (e8 b [c0,c1,c2,c3,c4,c5,c6] E) (e8 b [e0,e1,e2,e3,e4,e5,e6] E) I':=by repeat (first|exact At.head _ _ _|apply At.tail)) (hr:o+[M,v1,v2,v3,v4,v5,v6].length<=[c0,c1,c2,c3,c4,c5,c6].length:=by exact Ji rfl) (aa:[c0,c1,c2,c3,c4,c5,c6].take o++[M,v1,v2,v3,v4,v5,v6]++[c0,c1,c2,c3,c4,c5,c6].drop (o+[M,v1,v2,v3,v4,v5,v6].length)=[e0,e1,e2,e3,e4,e5,e6]:=by exact rfl) :
  Eff P κ N Q ⟨none,.store T x y,ty,ps,af,gd⟩ L I λL' I''=>L'=L/\I''=I':=Eff.st hT hx hy hv hl h1 ab hr aa
theorem ck1{o E:Nat}{c0 c1 c2 e0 e1 e2:Value}{I':List Item}(hT:tyF P T=some (sz,ag,by',z))(hx:ep L x=some (.pointer (some ⟨b,o,none⟩)):=by exact rfl)(hy:ep L y=some v:=by exact rfl)
  (hv:cellsOf v=[M,v1,v2]:=by exact rfl) (hl:[M,v1,v2].length=sz:=by exact rfl) (h1:z6 [M,v1,v2]:=by repeat (first|exact z6.nil|refine z6.cons rfl ?_)) (aa:At I (e8 b [c0,c1,c2] E) (e8 b [e0,e1,e2] E) I':=by repeat (first|exact At.head _ _ _|apply At.tail)) (hr:o+[M,v1,v2].length<=[c0,c1,c2].length:=by exact Ji rfl) (ab:[c0,c1,c2].take o++[M,v1,v2]++[c0,c1,c2].drop (o+[M,v1,v2].length)=[e0,e1,e2]:=by exact rfl) :
  Eff P κ N Q ⟨none,.store T x y,ty,ps,af,gd⟩ L I λL' I''=>L'=L/\I''=I':=Eff.st hT hx hy hv hl h1 aa hr ab
theorem ck0{o E:Nat}{c0 c1 c2 c3 c4 c5 e0 e1 e2 e3 e4 e5:Value}{I':List Item}(hT:tyF P T=some (sz,ag,by',z))(hx:ep L x=some (.pointer (some ⟨b,o,none⟩)):=by exact rfl)(hy:ep L y=some v:=by exact rfl)
  (hv:cellsOf v=[M]:=by exact rfl) (hl:[M].length=sz:=by exact rfl) (h1:z6 [M]:=by repeat (first|exact z6.nil|refine z6.cons rfl ?_)) (aa:At I (e8 b [c0,c1,c2,c3,c4,c5] E) (e8 b [e0,e1,e2,e3,e4,e5] E) I':=by repeat (first|exact At.head _ _ _|apply At.tail)) (hr:o+[M].length<=[c0,c1,c2,c3,c4,c5].length:=by exact Ji rfl) (ab:[c0,c1,c2,c3,c4,c5].take o++[M]++[c0,c1,c2,c3,c4,c5].drop (o+[M].length)=[e0,e1,e2,e3,e4,e5]:=by exact rfl) :
  Eff P κ N Q ⟨none,.store T x y,ty,ps,af,gd⟩ L I λL' I''=>L'=L/\I''=I':=Eff.st hT hx hy hv hl h1 aa hr ab
theorem gd5{o E:Nat}{c0 c1 c2 c3 e0 e1 e2 e3:Value}{I':List Item}(hT:tyF P T=some (sz,ag,by',z))(hx:ep L x=some (.pointer (some ⟨b,o,none⟩)):=by exact rfl)(hy:ep L y=some v:=by exact rfl)
  (hv:cellsOf v=[M,v1,v2,v3]:=by exact rfl) (hl:[M,v1,v2,v3].length=sz:=by exact rfl) (h1:z6 [M,v1,v2,v3]:=by repeat (first|exact z6.nil|refine z6.cons rfl ?_)) (aa:At I (e8 b [c0,c1,c2,c3] E) (e8 b [e0,e1,e2,e3] E) I':=by repeat (first|exact At.head _ _ _|apply At.tail)) (hr:o+[M,v1,v2,v3].length<=[c0,c1,c2,c3].length:=by exact Ji rfl) (ab:[c0,c1,c2,c3].take o++[M,v1,v2,v3]++[c0,c1,c2,c3].drop (o+[M,v1,v2,v3].length)=[e0,e1,e2,e3]:=by exact rfl) :
  Eff P κ N Q ⟨none,.store T x y,ty,ps,af,gd⟩ L I λL' I''=>L'=L/\I''=I':=Eff.st hT hx hy hv hl h1 aa hr ab
theorem Ge0(M:Eff P κ N Q o L I (λL' I'=>L'=L1/\I'=I1))(h:G P κ N ops Q rest L1 I1)(E:p8 N ops o L:=by first|exact p8.plain rfl|exact p8.on rfl rfl rfl):G P κ N ops Q (o::rest) L I:=G.eff E M (by rintro _ _ ⟨rfl,rfl⟩;exact h)
theorem Se0{M:Array Bool}(hi:ops[i]? = some o)(he:Eff P κ N Q o L I (λL' I'=>L'=L1/\I'=I1))(h:D P κ N ops Q J stop fuel (M.setIfInBounds i true) L1 I1)(hw:p8 N ops o L:=by first|exact p8.plain rfl|exact p8.on rfl rfl rfl)(E:Fit κ I1 J:=by first|((repeat (first|exact Fit.refl _|apply Fit.tail|exact Fit.au8 _ _|apply Fit.di0));done)|(refine Fit.H8 ?_;(repeat (first|exact Jm _|apply List.Sublist.cons_cons|apply List.Sublist.cons|exact Gv _ _));done)|(refine Fit.sp ?_;(repeat (first|exact Sp.refl _|refine Sp.pick ta2 ?_|apply Sp.skip|exact Sp.au8 _ _));done)):Step P κ N ops Q J stop fuel M L I i:=Step.eff hi hw he (by rintro _ _ ⟨rfl,rfl⟩;exact ⟨E,h⟩)
theorem Ge1{τ:Type}{L1:τ->Env}{I1:τ->List Item}(M:Eff P κ N Q o L I (λL' I'=>∃b,L'=L1 b/\I'=I1 b))(h:∀b,G P κ N ops Q rest (L1 b) (I1 b))(E:p8 N ops o L:=by first|exact p8.plain rfl|exact p8.on rfl rfl rfl):G P κ N ops Q (o::rest) L I:=G.eff E M (by rintro _ _ ⟨b,rfl,rfl⟩;exact h b)
theorem Se1{M:Array Bool}{τ:Type}{L1:τ->Env}{I1:τ->List Item}(hi:ops[i]? = some o)(he:Eff P κ N Q o L I (λL' I'=>∃b,L'=L1 b/\I'=I1 b))(h:∀b,D P κ N ops Q J stop fuel (M.setIfInBounds i true) (L1 b) (I1 b))(hw:p8 N ops o L:=by first|exact p8.plain rfl|exact p8.on rfl rfl rfl)(E:∀b,Fit κ (I1 b) J:=by intros;first|((repeat (first|exact Fit.refl _|apply Fit.tail|exact Fit.au8 _ _|apply Fit.di0));done)|(refine Fit.H8 ?_;(repeat (first|exact Jm _|apply List.Sublist.cons_cons|apply List.Sublist.cons|exact Gv _ _));done)|(refine Fit.sp ?_;(repeat (first|exact Sp.refl _|refine Sp.pick ta2 ?_|apply Sp.skip|exact Sp.au8 _ _));done)):Step P κ N ops Q J stop fuel M L I i:=Step.eff hi hw he (by rintro _ _ ⟨b,rfl,rfl⟩;exact ⟨E b,h b⟩)
theorem Ge2{τ M:Type}{L1:τ->M->Env}{I1:τ->M->List Item}(E:Eff P κ N Q o L I (λL' I'=>∃b c,L'=L1 b c/\I'=I1 b c))(h:∀b c,G P κ N ops Q rest (L1 b c) (I1 b c))(hw:p8 N ops o L:=by first|exact p8.plain rfl|exact p8.on rfl rfl rfl):G P κ N ops Q (o::rest) L I:=G.eff hw E (by rintro _ _ ⟨b,c,rfl,rfl⟩;exact h b c)
theorem Se2{M:Array Bool}{τ E:Type}{L1:τ->E->Env}{I1:τ->E->List Item}(hi:ops[i]? = some o)(he:Eff P κ N Q o L I (λL' I'=>∃b c,L'=L1 b c/\I'=I1 b c))(h:∀b c,D P κ N ops Q J stop fuel (M.setIfInBounds i true) (L1 b c) (I1 b c))(hw:p8 N ops o L:=by first|exact p8.plain rfl|exact p8.on rfl rfl rfl)(hf:∀b c,Fit κ (I1 b c) J:=by intros;first|((repeat (first|exact Fit.refl _|apply Fit.tail|exact Fit.au8 _ _|apply Fit.di0));done)|(refine Fit.H8 ?_;(repeat (first|exact Jm _|apply List.Sublist.cons_cons|apply List.Sublist.cons|exact Gv _ _));done)|(refine Fit.sp ?_;(repeat (first|exact Sp.refl _|refine Sp.pick ta2 ?_|apply Sp.skip|exact Sp.au8 _ _));done)):Step P κ N ops Q J stop fuel M L I i:=Step.eff hi hw he (by rintro _ _ ⟨b,c,rfl,rfl⟩;exact ⟨hf b c,h b c⟩)
theorem Gc0(E:Eff P κ N Q o L I (λL' I'=>∃v J',(v=M/\I1=J')/\L'=(dd,v)::L/\J'=I'))(h:G P κ N ops Q rest ((dd,M)::L) I1)(hw:p8 N ops o L:=by first|exact p8.plain rfl|exact p8.on rfl rfl rfl):G P κ N ops Q (o::rest) L I:=G.eff hw E (by rintro _ _ ⟨_,_,⟨rfl,rfl⟩,rfl,rfl⟩;exact h)
theorem Sc0{M:Array Bool}(hi:ops[i]? = some o)(he:Eff P κ N Q o L I (λL' I'=>∃v J',(v=E/\I1=J')/\L'=(dd,v)::L/\J'=I'))(h:D P κ N ops Q J stop fuel (M.setIfInBounds i true) ((dd,E)::L) I1)(hw:p8 N ops o L:=by first|exact p8.plain rfl|exact p8.on rfl rfl rfl)(hf:Fit κ I1 J:=by first|((repeat (first|exact Fit.refl _|apply Fit.tail|exact Fit.au8 _ _|apply Fit.di0));done)|(refine Fit.H8 ?_;(repeat (first|exact Jm _|apply List.Sublist.cons_cons|apply List.Sublist.cons|exact Gv _ _));done)|(refine Fit.sp ?_;(repeat (first|exact Sp.refl _|refine Sp.pick ta2 ?_|apply Sp.skip|exact Sp.au8 _ _));done)):Step P κ N ops Q J stop fuel M L I i:=Step.eff hi hw he (by rintro _ _ ⟨_,_,⟨rfl,rfl⟩,rfl,rfl⟩;exact ⟨hf,h⟩)
theorem Gc1(E:Eff P κ N Q o L I (λL' I'=>∃v J',(v=M/\J'=I1)/\L'=(dd,v)::L/\J'=I'))(h:G P κ N ops Q rest ((dd,M)::L) I1)(hw:p8 N ops o L:=by first|exact p8.plain rfl|exact p8.on rfl rfl rfl):G P κ N ops Q (o::rest) L I:=G.eff hw E (by rintro _ _ ⟨_,_,⟨rfl,rfl⟩,rfl,rfl⟩;exact h)
theorem Gc2{τ E:Type}{M:τ->E->Value}{I1:τ->E->List Item}(he:Eff P κ N Q o L I (λL' I'=>∃v J',(∃b c,v=M b c/\J'=I1 b c)/\L'=(dd,v)::L/\J'=I'))(h:∀b c,G P κ N ops Q rest ((dd,M b c)::L) (I1 b c))(hw:p8 N ops o L:=by first|exact p8.plain rfl|exact p8.on rfl rfl rfl):G P κ N ops Q (o::rest) L I:=G.eff hw he (by rintro _ _ ⟨_,_,⟨b,c,rfl,rfl⟩,rfl,rfl⟩;exact h b c)
theorem Sc2{M:Array Bool}{τ τ1:Type}{E:τ->τ1->Value}{I1:τ->τ1->List Item}(hi:ops[i]? = some o)(he:Eff P κ N Q o L I (λL' I'=>∃v J',(∃b c,v=E b c/\J'=I1 b c)/\L'=(dd,v)::L/\J'=I'))(h:∀b c,D P κ N ops Q J stop fuel (M.setIfInBounds i true) ((dd,E b c)::L) (I1 b c))(hw:p8 N ops o L:=by first|exact p8.plain rfl|exact p8.on rfl rfl rfl)(hf:∀b c,Fit κ (I1 b c) J:=by intros;first|((repeat (first|exact Fit.refl _|apply Fit.tail|exact Fit.au8 _ _|apply Fit.di0));done)|(refine Fit.H8 ?_;(repeat (first|exact Jm _|apply List.Sublist.cons_cons|apply List.Sublist.cons|exact Gv _ _));done)|(refine Fit.sp ?_;(repeat (first|exact Sp.refl _|refine Sp.pick ta2 ?_|apply Sp.skip|exact Sp.au8 _ _));done)):Step P κ N ops Q J stop fuel M L I i:=Step.eff hi hw he (by rintro _ _ ⟨_,_,⟨b,c,rfl,rfl⟩,rfl,rfl⟩;exact ⟨hf b c,h b c⟩)
theorem Dz{M:Array Bool}(h:V κ N Q .normal L I)(E:Region.ready .any ops M=[]:=by kernel_rfl):D P κ N ops Q J stop fuel M L I:=D.done E h
theorem Ce0{f:FuncId}{M:Func}{c:Code}{Post:Value->List Item->Prop}(E:P.funcs[f]? = some M)(hb:M.body=some c)(hN:M.ntmps=n)(h:W P κ ⟨n,[]⟩ c (bodyPost P M (bs4 κ Post)) [] I)(hl:Nat.ble 0 n=true:=by exact rfl):er P κ f [] I Post:=er.enter E hb hN hl rfl h
theorem Ce1{f:FuncId}{M:Func}{c:Code}{Post:Value->List Item->Prop}(hf:P.funcs[f]? = some M)(hb:M.body=some c)(hN:M.ntmps=n)(h:W P κ ⟨n,[]⟩ c (bodyPost P M (bs4 κ Post)) [(0,E)] I)(hl:Nat.ble 1 n=true:=by exact rfl):er P κ f [E] I Post:=er.enter hf hb hN hl rfl h
theorem Ce2{f:FuncId}{M:Func}{c:Code}{Post:Value->List Item->Prop}(hf:P.funcs[f]? = some M)(hb:M.body=some c)(hN:M.ntmps=n)(h:W P κ ⟨n,[]⟩ c (bodyPost P M (bs4 κ Post)) [(0,E),(1,v1)] I)(hl:Nat.ble 2 n=true:=by exact rfl):er P κ f [E,v1] I Post:=er.enter hf hb hN hl rfl h
theorem Ce3{f:FuncId}{M:Func}{c:Code}{Post:Value->List Item->Prop}(hf:P.funcs[f]? = some M)(hb:M.body=some c)(hN:M.ntmps=n)(h:W P κ ⟨n,[]⟩ c (bodyPost P M (bs4 κ Post)) [(0,E),(1,v1),(2,v2)] I)(hl:Nat.ble 3 n=true:=by exact rfl):er P κ f [E,v1,v2] I Post:=er.enter hf hb hN hl rfl h
theorem Ce4{f:FuncId}{M:Func}{c:Code}{Post:Value->List Item->Prop}(hf:P.funcs[f]? = some M)(hb:M.body=some c)(hN:M.ntmps=n)(h:W P κ ⟨n,[]⟩ c (bodyPost P M (bs4 κ Post)) [(0,E),(1,v1),(2,v2),(3,v3)] I)(hl:Nat.ble 4 n=true:=by exact rfl):er P κ f [E,v1,v2,v3] I Post:=er.enter hf hb hN hl rfl h
theorem Ce5{f:FuncId}{M:Func}{c:Code}{Post:Value->List Item->Prop}(hf:P.funcs[f]? = some M)(hb:M.body=some c)(hN:M.ntmps=n)(h:W P κ ⟨n,[]⟩ c (bodyPost P M (bs4 κ Post)) [(0,v0),(1,v1),(2,v2),(3,v3),(4,E)] I)(hl:Nat.ble 5 n=true:=by exact rfl):er P κ f [v0,v1,v2,v3,E] I Post:=er.enter hf hb hN hl rfl h
theorem Ce7{f:FuncId}{M:Func}{c:Code}{Post:Value->List Item->Prop}(hf:P.funcs[f]? = some M)(hb:M.body=some c)(hN:M.ntmps=n)(h:W P κ ⟨n,[]⟩ c (bodyPost P M (bs4 κ Post)) [(0,v0),(1,v1),(2,v2),(3,v3),(4,E),(5,v5),(6,v6)] I)(hl:Nat.ble 7 n=true:=by exact rfl):er P κ f [v0,v1,v2,v3,E,v5,v6] I Post:=er.enter hf hb hN hl rfl h
theorem S1(k1:Nat)(E:look L k1=some M:=by exact rfl):Sub L [(k1,M)]:= .cons E .nil
theorem S2(k1 k2:Nat)(h1:look L k1=some E:=by exact rfl)(h2:look L k2=some M:=by exact rfl):Sub L [(k1,E),(k2,M)]:= .cons h1 (.cons h2 .nil)
theorem S3(k1 k2 k3:Nat)(h1:look L k1=some v1:=by exact rfl)(h2:look L k2=some E:=by exact rfl)(h3:look L k3=some M:=by exact rfl):Sub L [(k1,v1),(k2,E),(k3,M)]:= .cons h1 (.cons h2 (.cons h3 .nil))
theorem S4(k1 k2 k3 k4:Nat)(h1:look L k1=some v1:=by exact rfl)(h2:look L k2=some E:=by exact rfl)(h3:look L k3=some M:=by exact rfl)(h4:look L k4=some v4:=by exact rfl):Sub L [(k1,v1),(k2,E),(k3,M),(k4,v4)]:= .cons h1 (.cons h2 (.cons h3 (.cons h4 .nil)))
theorem S5(k1 k2 k3 k4 k5:Nat)(h1:look L k1=some v1:=by exact rfl)(h2:look L k2=some M:=by exact rfl)(h3:look L k3=some E:=by exact rfl)(h4:look L k4=some v4:=by exact rfl)(h5:look L k5=some v5:=by exact rfl):Sub L [(k1,v1),(k2,M),(k3,E),(k4,v4),(k5,v5)]:= .cons h1 (.cons h2 (.cons h3 (.cons h4 (.cons h5 .nil))))
theorem S6(k1 k2 k3 k4 k5 M:Nat)(h1:look L k1=some v1:=by exact rfl)(h2:look L k2=some v2:=by exact rfl)(h3:look L k3=some v3:=by exact rfl)(h4:look L k4=some v4:=by exact rfl)(h5:look L k5=some v5:=by exact rfl)(h6:look L M=some E:=by exact rfl):Sub L [(k1,v1),(k2,v2),(k3,v3),(k4,v4),(k5,v5),(M,E)]:= .cons h1 (.cons h2 (.cons h3 (.cons h4 (.cons h5 (.cons h6 .nil)))))
theorem S7(k1 k2 k3 k4 k5 M E:Nat)(h1:look L k1=some v1:=by exact rfl)(h2:look L k2=some v2:=by exact rfl)(h3:look L k3=some v3:=by exact rfl)(h4:look L k4=some v4:=by exact rfl)(h5:look L k5=some v5:=by exact rfl)(h6:look L M=some v6:=by exact rfl)(h7:look L E=some v7:=by exact rfl):Sub L [(k1,v1),(k2,v2),(k3,v3),(k4,v4),(k5,v5),(M,v6),(E,v7)]:= .cons h1 (.cons h2 (.cons h3 (.cons h4 (.cons h5 (.cons h6 (.cons h7 .nil))))))
theorem S8(k1 k2 k3 k4 k5 M E k8:Nat)(h1:look L k1=some v1:=by exact rfl)(h2:look L k2=some v2:=by exact rfl)(h3:look L k3=some v3:=by exact rfl)(h4:look L k4=some v4:=by exact rfl)(h5:look L k5=some v5:=by exact rfl)(h6:look L M=some v6:=by exact rfl)(h7:look L E=some v7:=by exact rfl)(h8:look L k8=some v8:=by exact rfl):Sub L [(k1,v1),(k2,v2),(k3,v3),(k4,v4),(k5,v5),(M,v6),(E,v7),(k8,v8)]:= .cons h1 (.cons h2 (.cons h3 (.cons h4 (.cons h5 (.cons h6 (.cons h7 (.cons h8 .nil)))))))
theorem S9(k1 k2 k3 k4 k5 M E k8 k9:Nat)(h1:look L k1=some v1:=by exact rfl)(h2:look L k2=some v2:=by exact rfl)(h3:look L k3=some v3:=by exact rfl)(h4:look L k4=some v4:=by exact rfl)(h5:look L k5=some v5:=by exact rfl)(h6:look L M=some v6:=by exact rfl)(h7:look L E=some v7:=by exact rfl)(h8:look L k8=some v8:=by exact rfl)(h9:look L k9=some v9:=by exact rfl):Sub L [(k1,v1),(k2,v2),(k3,v3),(k4,v4),(k5,v5),(M,v6),(E,v7),(k8,v8),(k9,v9)]:= .cons h1 (.cons h2 (.cons h3 (.cons h4 (.cons h5 (.cons h6 (.cons h7 (.cons h8 (.cons h9 .nil))))))))
theorem S10(k1 k2 k3 k4 k5 k6 k7 k8 k9 M:Nat)(h1:look L k1=some v1:=by exact rfl)(h2:look L k2=some v2:=by exact rfl)(h3:look L k3=some v3:=by exact rfl)(h4:look L k4=some v4:=by exact rfl)(h5:look L k5=some v5:=by exact rfl)(h6:look L k6=some v6:=by exact rfl)(h7:look L k7=some v7:=by exact rfl)(h8:look L k8=some v8:=by exact rfl)(h9:look L k9=some v9:=by exact rfl)(aa:look L M=some E:=by exact rfl):Sub L [(k1,v1),(k2,v2),(k3,v3),(k4,v4),(k5,v5),(k6,v6),(k7,v7),(k8,v8),(k9,v9),(M,E)]:= .cons h1 (.cons h2 (.cons h3 (.cons h4 (.cons h5 (.cons h6 (.cons h7 (.cons h8 (.cons h9 (.cons aa .nil)))))))))
theorem S11(k1 k2 k3 k4 k5 k6 k7 k8 k9 E M:Nat)(h1:look L k1=some v1:=by exact rfl)(h2:look L k2=some v2:=by exact rfl)(h3:look L k3=some v3:=by exact rfl)(h4:look L k4=some v4:=by exact rfl)(h5:look L k5=some v5:=by exact rfl)(h6:look L k6=some v6:=by exact rfl)(h7:look L k7=some v7:=by exact rfl)(h8:look L k8=some v8:=by exact rfl)(h9:look L k9=some v9:=by exact rfl)(ae:look L E=some aa:=by exact rfl)(ad:look L M=some ab:=by exact rfl):Sub L [(k1,v1),(k2,v2),(k3,v3),(k4,v4),(k5,v5),(k6,v6),(k7,v7),(k8,v8),(k9,v9),(E,aa),(M,ab)]:= .cons h1 (.cons h2 (.cons h3 (.cons h4 (.cons h5 (.cons h6 (.cons h7 (.cons h8 (.cons h9 (.cons ae (.cons ad .nil))))))))))
theorem S12(k1 k2 k3 k4 k5 k6 k7 k8 k9 aa E M:Nat)(h1:look L k1=some v1:=by exact rfl)(h2:look L k2=some v2:=by exact rfl)(h3:look L k3=some v3:=by exact rfl)(h4:look L k4=some v4:=by exact rfl)(h5:look L k5=some v5:=by exact rfl)(h6:look L k6=some v6:=by exact rfl)(h7:look L k7=some v7:=by exact rfl)(h8:look L k8=some v8:=by exact rfl)(h9:look L k9=some v9:=by exact rfl)(ai:look L aa=some ab:=by exact rfl)(ah:look L E=some ad:=by exact rfl)(aj:look L M=some ae:=by exact rfl):Sub L [(k1,v1),(k2,v2),(k3,v3),(k4,v4),(k5,v5),(k6,v6),(k7,v7),(k8,v8),(k9,v9),(aa,ab),(E,ad),(M,ae)]:= .cons h1 (.cons h2 (.cons h3 (.cons h4 (.cons h5 (.cons h6 (.cons h7 (.cons h8 (.cons h9 (.cons ai (.cons ah (.cons aj .nil)))))))))))
theorem S13(k1 k2 k3 k4 k5 k6 k7 k8 k9 ab aa E ae:Nat)(h1:look L k1=some v1:=by exact rfl)(h2:look L k2=some v2:=by exact rfl)(h3:look L k3=some v3:=by exact rfl)(h4:look L k4=some v4:=by exact rfl)(h5:look L k5=some v5:=by exact rfl)(h6:look L k6=some v6:=by exact rfl)(h7:look L k7=some v7:=by exact rfl)(h8:look L k8=some v8:=by exact rfl)(h9:look L k9=some v9:=by exact rfl)(ak:look L ab=some ad:=by exact rfl)(ao:look L aa=some ah:=by exact rfl)(an:look L E=some ai:=by exact rfl)(aj:look L ae=some M:=by exact rfl):Sub L [(k1,v1),(k2,v2),(k3,v3),(k4,v4),(k5,v5),(k6,v6),(k7,v7),(k8,v8),(k9,v9),(ab,ad),(aa,ah),(E,ai),(ae,M)]:= .cons h1 (.cons h2 (.cons h3 (.cons h4 (.cons h5 (.cons h6 (.cons h7 (.cons h8 (.cons h9 (.cons ak (.cons ao (.cons an (.cons aj .nil))))))))))))
theorem S14(k1 k2 k3 k4 k5 k6 k7 k8 k9 ad ab aa ah M:Nat)(h1:look L k1=some v1:=by exact rfl)(h2:look L k2=some v2:=by exact rfl)(h3:look L k3=some v3:=by exact rfl)(h4:look L k4=some v4:=by exact rfl)(h5:look L k5=some v5:=by exact rfl)(h6:look L k6=some v6:=by exact rfl)(h7:look L k7=some v7:=by exact rfl)(h8:look L k8=some v8:=by exact rfl)(h9:look L k9=some v9:=by exact rfl)(ao:look L ad=some ae:=by exact rfl)(ar:look L ab=some aj:=by exact rfl)(ap:look L aa=some ak:=by exact rfl)(an:look L ah=some E:=by exact rfl)(aq:look L M=some ai:=by exact rfl):Sub L [(k1,v1),(k2,v2),(k3,v3),(k4,v4),(k5,v5),(k6,v6),(k7,v7),(k8,v8),(k9,v9),(ad,ae),(ab,aj),(aa,ak),(ah,E),(M,ai)]:= .cons h1 (.cons h2 (.cons h3 (.cons h4 (.cons h5 (.cons h6 (.cons h7 (.cons h8 (.cons h9 (.cons ao (.cons ar (.cons ap (.cons an (.cons aq .nil)))))))))))))
theorem S15(k1 k2 k3 k4 k5 k6 k7 k8 k9 ae ab aa aj M ad:Nat)(h1:look L k1=some v1:=by exact rfl)(h2:look L k2=some v2:=by exact rfl)(h3:look L k3=some v3:=by exact rfl)(h4:look L k4=some v4:=by exact rfl)(h5:look L k5=some v5:=by exact rfl)(h6:look L k6=some v6:=by exact rfl)(h7:look L k7=some v7:=by exact rfl)(h8:look L k8=some v8:=by exact rfl)(h9:look L k9=some v9:=by exact rfl)(aq:look L ae=some ah:=by exact rfl)(aw:look L ab=some an:=by exact rfl)(ar:look L aa=some ao:=by exact rfl)(ap:look L aj=some E:=by exact rfl)(au:look L M=some ak:=by exact rfl)(av:look L ad=some ai:=by exact rfl):Sub L [(k1,v1),(k2,v2),(k3,v3),(k4,v4),(k5,v5),(k6,v6),(k7,v7),(k8,v8),(k9,v9),(ae,ah),(ab,an),(aa,ao),(aj,E),(M,ak),(ad,ai)]:= .cons h1 (.cons h2 (.cons h3 (.cons h4 (.cons h5 (.cons h6 (.cons h7 (.cons h8 (.cons h9 (.cons aq (.cons aw (.cons ar (.cons ap (.cons au (.cons av .nil))))))))))))))
theorem S16{ap:Value}(k1 k2 k3 k4 k5 k6 k7 k8 k9 ah ad ab ak M ae an:Nat)(h1:look L k1=some v1)(h2:look L k2=some v2)(h3:look L k3=some v3)(h4:look L k4=some v4)(h5:look L k5=some v5)(h6:look L k6=some v6)(h7:look L k7=some v7)(h8:look L k8=some v8)(h9:look L k9=some v9)(au:look L ah=some ai)(ay:look L ad=some ap)(av:look L ab=some aq)(ar:look L ak=some E)(aw:look L M=some ao)(ax:look L ae=some aj)(az:look L an=some aa):Sub L [(k1,v1),(k2,v2),(k3,v3),(k4,v4),(k5,v5),(k6,v6),(k7,v7),(k8,v8),(k9,v9),(ah,ai),(ad,ap),(ab,aq),(ak,E),(M,ao),(ae,aj),(an,aa)]:= .cons h1 (.cons h2 (.cons h3 (.cons h4 (.cons h5 (.cons h6 (.cons h7 (.cons h8 (.cons h9 (.cons au (.cons ay (.cons av (.cons ar (.cons aw (.cons ax (.cons az .nil)))))))))))))))
theorem S17{ar au:Value}(k1 k2 k3 k4 k5 k6 k7 k8 k9 ai ae ab ao M ah ap ad:Nat)(h1:look L k1=some v1)(h2:look L k2=some v2)(h3:look L k3=some v3)(h4:look L k4=some v4)(h5:look L k5=some v5)(h6:look L k6=some v6)(h7:look L k7=some v7)(h8:look L k8=some v8)(h9:look L k9=some v9)(ax:look L ai=some aj)(a1:look L ae=some ar)(ay:look L ab=some au)(aw:look L ao=some E)(az:look L M=some aq)(a0:look L ah=some an)(a3:look L ap=some aa)(av:look L ad=some ak):Sub L [(k1,v1),(k2,v2),(k3,v3),(k4,v4),(k5,v5),(k6,v6),(k7,v7),(k8,v8),(k9,v9),(ai,aj),(ae,ar),(ab,au),(ao,E),(M,aq),(ah,an),(ap,aa),(ad,ak)]:= .cons h1 (.cons h2 (.cons h3 (.cons h4 (.cons h5 (.cons h6 (.cons h7 (.cons h8 (.cons h9 (.cons ax (.cons a1 (.cons ay (.cons aw (.cons az (.cons a0 (.cons a3 (.cons av .nil))))))))))))))))
end
end Go.Sl
namespace Go.Sl
open Go.RowKit (Below)
variable{x y:Operand}{T U:TypeId}{E by' n sz:Nat}{a ag b:Bool}{z:List Value}
def EqT(P:Program)(T:TypeId)(α:Type)[Enc α][DecidableEq α]:Prop:=
 (∀(x y:α) (w:World),(Op.equalIn 10000 T (.agg (Enc.enc x).toArray)<|.agg (Enc.enc y).toArray).run P w = .ok (decide<|x=y) w)/\P.eqGuardType P.depth T=false
section
variable {P:Program}{κ:Ctx}{N:Frm}{Q:Exit->Act->World->Prop}{L:Env}{I J:List Item}
variable {d:Option Tmp}{ty:TypeId}{ps:String}{af:Array Edge}{gd:Option (Nat×Bool)}
theorem j0.gj6{T b o:Nat}{i:Int}(ht:P.underlying T=some (.array n E))(hE:tyF P E=some (sz,ag,by',z))(hx:ep L x=some (.pointer (some ⟨b,o,none⟩)))
  (hy:ep L y=some (e7 i)) (h0:0<=i) (hn:i<n):j0 P κ N ⟨d,.indexAddr T x y,ty,ps,af,gd⟩ L J (.pointer<|some ⟨b,o+i.toNat*sz,none⟩):=
 λa w M hs=>by
  simp [execOp,M.eval hx,M.eval hy,Instr.indexAt,asIntOf,run_underlying ht,h0,hn,run_sizeOf hE,Instr.sureAddr,y5]
theorem j0.eqlT{α:Type}[Enc α][DecidableEq α]{a b:α}(h:EqT P T α)(hx:ep L x=some (.agg (Enc.enc a).toArray))(hy:ep L y=some (.agg (Enc.enc b).toArray)) :
  j0 P κ N ⟨d,.binOp .eql T x y U,ty,ps,af,gd⟩ L J (.bool<|decide<|a=b):=λaa w M _=>by
 have E:=run_eqGuard_agg w .eql T x y (Enc.enc a).toArray (Enc.enc b).toArray h.2
 simp only [execOp,M.eval hx,M.eval hy]
 simp [E,run_eql_struct,h.1]
theorem j0.neqT{α:Type}[Enc α][DecidableEq α]{a b:α}(h:EqT P T α)(hx:ep L x=some (.agg (Enc.enc a).toArray))(hy:ep L y=some (.agg (Enc.enc b).toArray)) :
  j0 P κ N ⟨d,.binOp .neq T x y U,ty,ps,af,gd⟩ L J (.bool<|decide<|a≠b):=λaa w M _=>by
 have E:=run_eqGuard_agg w .neq T x y (Enc.enc a).toArray (Enc.enc b).toArray h.2
 simp only [execOp,M.eval hx,M.eval hy]
 simp [E,run_neq_struct,h.1]
theorem j0.neqb(E:P.underlying T=some .bool)(hx:ep L x=some (.bool a))(hy:ep L y=some (.bool b)):j0 P κ N ⟨d,.binOp .neq T x y U,ty,ps,af,gd⟩ L J (.bool (decide (a≠b))):=
 λaa w M _=>by
  have h:=run_equalIn_bool' (P:=P) w 9999 T a b E
  simp only [execOp,M.eval hx,M.eval hy,binOp]
  simp [go_sem,Op.equal,Op.maxDepth,h]
  cases a<;>cases b<;>rfl
theorem j0.gx4(E:P.underlying T=some .bool)(hx:ep L x=some (.bool a))(hy:ep L y=some (.bool b)):j0 P κ N ⟨d,.binOp .eql T x y U,ty,ps,af,gd⟩ L J (.bool (decide (a=b))):=
 λaa w M _=>by
  have h:=run_equalIn_bool' (P:=P) w 9999 T a b E
  simp only [execOp,M.eval hx,M.eval hy,binOp]
  simp [go_sem,Op.equal,Op.maxDepth,h]
  cases a<;>cases b<;>rfl
theorem j0.quo{m n:Int}(E:ep L x=some (e7 m))(hy:ep L y=some (e7 n))(M:0<=m)(h1:0<n)(hr:InR m):j0 P κ N ⟨d,.binOp .quo T x y U,ty,ps,af,gd⟩ L J (e7 (m / n)):=by
 have h:=j0.quow (P:=P) (κ:=κ) (N:=N) (J:=J) (d:=d) (ty:=ty) (ps:=ps) (af:=af) (gd:=gd) (T:=T) (U:=U) E hy (by omega)
 have e:IntKind.i64.wrap (Int.tdiv m n)=m / n:=by
  rw [Int.tdiv_eq_ediv_of_nonneg M]
  refine InR.wrap ?_
  have h2:m / n<=m:=Mr n M
  have h3:0<=m / n:=Int.ediv_nonneg M (by omega)
  unfold InR at *; omega
 rwa [e] at h
theorem j0.fn7{T aa ad:Nat}{ah:Bool}{z' cells:List Value}{M:List (Nat×Operand)}{vs:List Value}(hT:tyF P T=some (sz,ag,by',z))(ht:P.underlying T=some (.array n E))(hE:tyF P E=some (aa,ah,ad,z'))
  (hp:Q5 L (M.map (·.2))=some vs) (hf:Instr.fill (λi=>some (i*aa,aa)) z.toArray ((M.map (·.1)).zip vs)=some cells.toArray):j0 P κ N ⟨d,.build T M.toArray,ty,ps,af,gd⟩ L J (.agg cells.toArray):=
 λa w ha hs=>by
  obtain ⟨zv,hz,ae⟩:=aa0 hT w
  have ai:M.map (λp=>(p.1,a.eval p.2))=(M.map (·.1)).zip vs:=by
   rw [←ha.Q5 hp]
   clear hp hf
   induction M with
   |nil=>rfl
   |cons p ps ih=>simp [ih]
  have ab:List.map (λx:Nat×Operand=>match x with |(i,x)=>(i,a.eval x)) M=(M.map (·.1)).zip vs:=ai
  simp only [execOp,Instr.build,Sem.run_bind,hz,Result.andThen_ok,run_underlying ht,run_sizeOf hE,Ke,ab,ae,hf,Sem.run_pure]
theorem V.gp9{fn:Func}{t u s:Tmp}{v v' M:Value}{Post:Value->List Item->Prop}(hr:fn.results = #[.tmp t,.tmp u,.tmp s])(hv:look L t=some v)(aa:look L u=some v')(E:look L s=some M)(J:List Item)(hf:Fit κ I J)(hp:Post (.tuple #[v,v',M]) J)(h0:N.ds=[]:=by rfl):V κ N (bodyPost P fn (bs4 κ Post)) .ret L I:=
 λa w ha hs=>bodyPost_ret (v:= .tuple #[v,v',M]) (by simp [results,hr,ha.get t v hv,ha.get u v' aa,ha.get s M E]) (ha.defers.trans h0) ⟨_,J,rfl,hp,hf w hs⟩
end
structure ah9 (α:Type) where
 a:Option Addr
 c:Nat
 xs:List α
instance {α:Type}:Inhabited (ah9 α):=⟨⟨none,0,[]⟩⟩
instance {α:Type}:Enc (ah9 α):=⟨λr=>[.slice r.a r.xs.length r.c],1,by omega,λ_=>rfl,λr u hu=>by
 simp only [Gh,Hy,Kx] at hu
 rcases hu with rfl
 rfl⟩
end Go.Sl
namespace Go.Sl
open Go.RowKit (Below)
variable{e:TypeId}{ad:Option Addr}{E T b by' c h n o sz:Nat}{x:Operand}{ag:Bool}{cs z:List Value}
theorem bt2{z:Array Value}(h:∀u∈z,u.oneCell'=true)(n:Nat):∀u∈(Builtin.zeroCells z n).toList,u.oneCell'=true:=λu E=>by
 simp only [Builtin.zeroCells,Ny,Ha,Ni,Ht] at E
 obtain ⟨i,hi,rfl⟩:=E
 have hz:0<z.size:=Lp λe=>by rw [e] at hi;simp at hi
 have M:i % z.size<z.size:=Na _ hz
 rw [Ly z _ M]
 exact h _<|Array.getElem_mem M
section
variable {P:Program}{κ:Ctx}{N:Frm}{Q:Exit->Act->World->Prop}{L:Env}{I J:List Item}
variable {d:Option Tmp}{ty:TypeId}{ps:String}{af:Array Edge}{gd:Option (Nat×Bool)}
variable {α:Type}[Enc α]{xs:List α}
theorem cz6(hh:h<=xs.length):∀w,(vc e (.slice ad n c) xs).ok w->(vc e (.slice ad (xs.take h).length c) (xs.take h)).ok w/\
  ∀k,(vc e (.slice ad (xs.take h).length c)<|xs.take h).fp k->(vc e (.slice ad n c) xs).fp k:=by
 intro w hw
 obtain ⟨a,cap,E,h1,h2,h3,h4⟩:=hw
 cases E
 refine ⟨⟨ad,c,rfl,n3 _,by rw [Fx];omega,h3,λhc=>?_⟩,λk hk=>?_⟩
 ·obtain ⟨b,off,cur,rfl,hb,aa,M⟩:=h4 hc
  refine ⟨b,off,cur,rfl,hb,aa,λj u hj=>M j u ?_⟩
  rw [U8,Jf] at hj
  split at hj
  ·exact hj
  cases hj
 obtain ⟨off,n',ab,E,hc⟩:=hk
 simp only [Value.slice.injEq] at E
 obtain ⟨rfl,_,rfl⟩:=E
 exact ⟨off,_,_,rfl,hc⟩
theorem Eff.dr3{o:Oper}{R:Env->List Item->Prop}(hd:o.dst=none)
  (h:∀a w,Ag N a L->Sep κ w I->∃v w' I',(execOp a.eval o).run P w = .ok (.value v) w'/\R L I'/\Sep κ w' I'):Eff P κ N Q o L I R:=λa w E hs=>by
 obtain ⟨v,w',I',hr,hR,M⟩:=h a w E hs
 simp only [Oper.wp,hr,Oper.upon,hd]
 exact ⟨_,_,hR,E,M⟩
theorem Eff.clear{t e k:Nat}{I':List Item}(ht:P.underlying t=some (.slice e))(hT:tyF P e=some (Enc.sz α,ag,by',z))(hz:z6 z)(ay:z.length=Enc.sz α)
  (hx:ep L x=some (.slice (M0 ad c k<|Enc.sz α) (xs.drop k).length (c - k))) (hk:k<=xs.length) (E:At I (vc e (.slice ad n c) xs) (vc e (.slice ad (xs.take k).length c)<|xs.take k) I') :
  Eff P κ N Q ⟨none,.call {callee:= .builtin .clear,args:= #[x],argTypes:= #[t]},ty,ps,af,gd⟩ L I λL' I''=>L'=L/\I''=I':=
 Eff.dr3 rfl λa w ha hs=>by
  have aj:=(hs.ok _ E.mem).1
  have a0:=aj
  obtain ⟨a',a3,hv,hl,aq,av,ab⟩:=aj
  cases hv
  by_cases hkl:k=xs.length
  ·subst hkl
   refine ⟨.tuple #[],w,I',?_,⟨rfl,rfl⟩,Fit.upd E (cz6<|Gk _) w hs⟩
   have e0:(xs.drop xs.length).length=0:=by simp
   rw [e0] at hx
   generalize M0 ad c xs.length (Enc.sz α)=aa at hx
   cases aa<;>simp [execOp,resolve,invoke,builtin,ha.eval hx,Builtin.clear_,run_underlying ht]
  have a5:k<xs.length:=by omega
  obtain ⟨b,off,cur,rfl,hb,ap,ai⟩:=ab (by omega)
  obtain ⟨zv,aw,ae⟩:=aa0 hT w
  have hm:(xs.drop k).length=xs.length - k:=Ge
  have a4:xs.length*Enc.sz α<=c*Enc.sz α:=Hs _ aq
  have M:k*Enc.sz α+(xs.length - k)*Enc.sz α=xs.length*Enc.sz α:=by rw [←Jk];congr 1;omega
  have hlen:(Builtin.zeroCells zv.cells<|xs.length - k).toList.length=(xs.length - k)*Enc.sz α:=by
   rw [Hl,size_zeroCells,ae,Jv,ay]
  have h1:∀u∈(Builtin.zeroCells zv.cells<|xs.length - k).toList,u.oneCell'=true:=bt2 (by rw [ae];intro u hu;exact hz.all u<|by simpa using hu) _
  obtain ⟨m,ax⟩:∃m,(xs.drop k).length=m+1:=⟨xs.length - k - 1,by omega⟩
  have ah:xs.length - k=m+1:=by omega
  obtain ⟨Z,hZ⟩:∃Z,Z=(Builtin.zeroCells zv.cells<|m+1).toList:=⟨_,rfl⟩
  rw [ah,←hZ] at hlen h1
  rw [ah] at M
  have ak:=run_storeCells_at P b (off+k*Enc.sz α) e Z 0 cur w hb (by rw [hlen];omega) h1
  simp only [Kw] at ak
  have az:ep L x=some (.slice (some ⟨b,off+k*Enc.sz α,none⟩) (m+1)<|c - k):=by
   rw [hx,ax];unfold M0;rw [An (by omega)];simp [y5]
  refine ⟨.tuple #[],_,I',by simp only [execOp,resolve,invoke,builtin,Ke,Kc,My,ha.eval az];simp [Builtin.clear_,run_underlying ht,aw];rw [←hZ,ak];simp only [Result.andThen_ok];rfl,⟨rfl,rfl⟩,?_⟩
  refine hs.upd E rfl ⟨rfl,Gk _⟩ rfl (by simp) (λk' _ ao=>setRow_other w b k' _ λe=>ao<|by subst e;exact ⟨off,xs.length,c,rfl,by omega⟩) ?_ λk hk=> .inl ?_
  ·refine ⟨_,c,rfl,n3 _,by rw [Fx];omega,av,λhc=>⟨b,off,_,rfl,setRow_heap w b cur _ e _ hb,?_,λj u' hj=>?_⟩⟩
   ·simp only [Jv,A_,Fx,Ge,hlen,Hl];omega
   have au:j<k*Enc.sz α:=by
    have:=(He.1 hj).1
    rw [n3,Fx] at this
    have h2:min k xs.length=k:=by omega
    rw [h2] at this
    exact this
   rw [U8,Jf,By au] at hj
   have:=ai j u' hj
   rw [Kb,Hf (by simp only [A_,Fx,Hl];omega),Hf (by simp only [Fx,Hl];omega),Jf,By<|by omega]
   simpa using this
  obtain ⟨a1,n',c',an,ar⟩:=hk
  cases an
  exact ⟨off,xs.length,c,rfl,ar⟩
theorem j0.fk7{y:Operand}{m:Int}(ht:P.underlying T=some (.slice E))(hE:tyF P E=some (sz,ag,by',z))(hx:ep L x=some (.slice ad n c))(hy:ep L y=some (e7 m))(M:m=(h:Int))
  (hh:h<=c):j0 P κ N ⟨d,.slice T x none (some y) none,ty,ps,af,gd⟩ L J (.slice ad h c):=λa w ha hs=>by
 subst M
 have:=j0.slice (P:=P) (κ:=κ) (N:=N) (L:=L) (J:=J) (d:=d) (ty:=ty) (ps:=ps) (af:=af) (gd:=gd) (l:=0) (h:=h) ht hE hx (.inl ⟨rfl,rfl⟩) (.inr ⟨y,rfl,hy⟩) (Le _) hh a w ha hs
 rw [this]
 have e:(if c=0 then ad else ad.map (λx=>x.add<|0*sz))=ad:=by
  split
  ·rfl
  cases ad<;>simp [Addr.add]
 rw [e]
 rfl
theorem Sl.gt7{l m:Nat}(E:Sl κ I (.slice ad n c) xs)(hl:l<=xs.length)(M:m=xs.length - l):Sl κ I (.slice (M0 ad c l (Enc.sz α)) m (c - l)) (xs.drop l):=by
 have h:=Sl.drop E hl
 rw [Ge,←M] at h
 exact h
theorem vc.cap(h:vc e (.slice ad n c) xs∈I):∀w,Sep κ w I->xs.length<=c:=λw hs=>by
 obtain ⟨_,_,M,_,E,_⟩:=(Sl.vec (κ:=κ) h) w hs
 cases M
 exact E
theorem j0.caps(M:P.underlying T=some (.slice E))(hx:ep L x=some (.slice ad n c)) :
  j0 P κ N ⟨d,.call {callee:= .builtin .cap,args:= #[x],argTypes:= #[T]},ty,ps,af,gd⟩ L J (e7 c):=
 λa w ha hs=>by
  simp [execOp,resolve,invoke,builtin,ha.eval hx,Builtin.cap_,run_underlying M,goInt]
def X8(κ:Ctx)(I:List Item)(b:Nat)(cs:List Value)(T:TypeId):Prop:=∀w,Sep κ w I->w.heap[b]? = some (.cells cs.toArray T (0,0))
theorem X8.fit{T:TypeId}(h:X8 κ I b cs T)(M:Fit κ J I):X8 κ J b cs T:=λw s=>h w (M w s)
theorem X8.of{T:TypeId}(h:e8 b cs T∈I):X8 κ I b cs T:=λw s=>(s.ok _ h).1
theorem j0.gj1{v:Value}(hT:tyF P T=some (sz,false,by',z))(hx:ep L x=some (.pointer (some ⟨b,o,none⟩)))(hb:X8 κ J b cs E)(M:cs[o]? = some v) :
  j0 P κ N ⟨d,.load T x,ty,ps,af,gd⟩ L J v:=
 λa w ha hs=>by
  have:=V6 (w:=w) (hb w hs) o
  simp [execOp,ha.eval hx,Instr.loadAt,Instr.sureAddr,aa1 hT<|this.trans M]
theorem j0.fu4{vs:List Value}(hT:tyF P T=some (sz,true,by',z))(hx:ep L x=some (.pointer (some ⟨b,o,none⟩)))(hb:X8 κ J b cs E)(hc:(cs.drop o).take sz=vs)(hl:vs.length=sz) :
  j0 P κ N ⟨d,.load T x,ty,ps,af,gd⟩ L J (.agg vs.toArray):=
 λa w ha hs=>by
  have M:=λj=>V6 (w:=w) (hb w hs) j
  have:(loadVar T ⟨b,o,none⟩).run P w = .ok (.agg vs.toArray) w:=G2 hT hl λj u hj=>by
   rw [y5,M,←hj,←hc,Jf,By<|by have:=(He.1 hj).1;omega,Jg]
  simp [execOp,ha.eval hx,Instr.loadAt,Instr.sureAddr,this]
def gc5(P:Program)(κ:Ctx)(I:List Item)(g:FuncId)(caps:List Value)(p:α->Bool):Prop:=T8 P g=true/\∀(x:α) (J:List Item),Fit κ J I->er P κ g ([]++[.agg (Enc.enc x).toArray]++caps) J λr J'=>r = .bool (p x)/\J=J'
theorem gc5.fit{g:FuncId}{caps:List Value}{p:α->Bool}(h:gc5 P κ I g caps p)(M:Fit κ J I):gc5 P κ J g caps p:=⟨h.1,λx K E=>h.2 x K (E.trans M)⟩
end
end Go.Sl
namespace Go.Sl
section
variable {P:Program}{κ:Ctx}{N:Frm}{Q:Exit->Act->World->Prop}{L:Env}{I:List Item}
theorem bk9{c rest:Code}{a:Act}{w:World}(l:Nat){σ:Type}(R:σ->Act->World->Prop)(μ:σ->Nat)(hf:findLabel c l=some rest)
  (first:c.wp P (Exit.jump l (λa w=>∃s,R s a w) Q) a w)
  (pass:∀s a w,R s a w->rest.wp P (Exit.jump l (λa' w'=>∃s',R s' a' w'/\μ s'<μ s) Q) a w):(Code.scope c).wp P Q a w:=by
 intro b k cs
 have hg:gotoIn l (.inScope c::k)=some (.code rest :: .inScope c::k):=by simp [gotoIn,hf]
 have ad:∀n s a w,μ s=n->R s a w->∃e a' w',Q e a' w'/\Arrives P (lone (b.at a<|.code rest :: .inScope c::k) cs w) b k cs e a' w':=by
  intro n
  induction n using Nat.strongRecOn with
  |_ n ih=>
   intro s a w hn hR
   obtain ⟨e,a₁,w₁,hq,M⟩:=pass s a w hR b (.inScope c::k) cs
   cases e with
   |normal=>exact ⟨.normal,a₁,w₁,hq,Steps.trans M<|.one step_inScope⟩
   |exit id=>exact ⟨.exit id,a₁,w₁,hq,λk' hk=>M k'<|by simp [exitTo,hk]⟩
   |goto l'=>
    obtain ⟨rfl,s',ab,hlt⟩:=hq
    obtain ⟨e₂,a₂,w₂,aa,E⟩:=ih _ (by omega) s' a₁ w₁ rfl ab
    exact ⟨e₂,a₂,w₂,aa,.of_steps (M _ hg) E⟩
   |ret=>exact ⟨_,a₁,w₁,hq,M⟩
   |panic ch=>exact ⟨_,a₁,w₁,hq,M⟩
   |outgrown=>exact ⟨_,a₁,w₁,hq,M⟩
 obtain ⟨e,a₁,w₁,hq,M⟩:=first b (.inScope c::k) cs
 cases e with
 |normal=>exact ⟨.normal,a₁,w₁,hq,.head step_scope<|Steps.trans M<|.one step_inScope⟩
 |exit id=>exact ⟨.exit id,a₁,w₁,hq,λk' hk=> .head step_scope<|M k'<|by simp [exitTo,hk]⟩
 |goto l'=>
  obtain ⟨rfl,s,hR⟩:=hq
  obtain ⟨e₂,a₂,w₂,aa,E⟩:=ad _ s a₁ w₁ rfl hR
  exact ⟨e₂,a₂,w₂,aa,.of_steps (.head step_scope<|M _ hg) E⟩
 |ret=>exact ⟨_,a₁,w₁,hq,.of_steps (.one step_scope) M⟩
 |panic ch=>exact ⟨_,a₁,w₁,hq,.of_steps (.one step_scope) M⟩
 |outgrown=>exact ⟨_,a₁,w₁,hq,.of_steps (.one step_scope) M⟩
theorem V.fj9{l:Nat}{K:Act->World->Prop}(h:V κ N Q .ret L I):V κ N (Exit.jump l K Q) .ret L I:=h
end
end Go.Sl
namespace Go.Sl
section
variable {P:Program}{κ:Ctx}{N:Frm}{Q:Exit->Act->World->Prop}{L:Env}{I:List Item}
theorem W.gg5{c rest:Code}{l:Nat}(M:findLabel c l=some rest)(h:W P κ N c (Exit.jump l (λ_ _=>∃s:Unit,False) Q) L I):W P κ N (.scope c) Q L I:=λa w ha hs=>
 bk9 l (fun (_:Unit) _ _=>False) (λ_=>0) M (h a w ha hs) λ_ _ _ E=>E.elim
theorem W.label{l:Nat}(h:V κ N Q .normal L I):W P κ N (.label l) Q L I:=λa w M hs=>wp_label (h a w M hs)
end
end Go.Sl
