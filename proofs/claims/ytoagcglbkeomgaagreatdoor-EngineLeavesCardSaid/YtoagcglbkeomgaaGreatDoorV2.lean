/- A part of the proofs of statements of this seat: contracts of functions, and the plain laws that they lean on. No conditions. -/
import Derived.Test.YtoagcglbkeomgaaGreatDoorV1
import Derived.Laws.StructEq
import Derived.ChangeKeysEq
import Derived.ScopeJumps
set_option linter.unusedVariables false
set_option linter.unusedSimpArgs false
set_option linter.unusedSectionVars false
namespace Go.Sl
variable{E T b by' d dd fuel i n stop sz:Nat}{M aa ab ad ai aj ak c0 c1 c2 c3 c4 c5 c6 e0 e1 e2 e3 e4 e5 e6 v v0 v1 v2 v3 v4 v5 v6 v7 v8 v9:Value}{x y:Operand}{cs z:List Value}{U:TypeId}{m:Int}{I' I1:List Item}{ag:Bool}{L1:Env}
section
variable {P:Program}{κ:Ctx}{N:Frm}{Q:Exit->Act->World->Prop}{L:Env}{I J:List Item}{ops:Array Oper}{o:Oper}{rest:List Oper}{q:Op}{ty:TypeId}{ps:String}{af:Array Edge}{gd:Option (Nat×Bool)}
theorem Gr(hr:j8 P κ N ⟨some d,q,ty,ps,af,none⟩ L I v)(h:G P κ N ops Q rest ((d,v)::L) I)(M:Nat.blt d N.n=true:=by exact rfl):G P κ N ops Q (⟨some d,q,ty,ps,af,none⟩::rest) L I:=G.read (q8.plain rfl) rfl M hr h
theorem Gm(hx:er L x=some v)(h:G P κ N ops Q rest ((d,v)::L) I)(M:Nat.blt d N.n=true:=by exact rfl):G P κ N ops Q (⟨some d,.move x,ty,ps,af,none⟩::rest) L I:=Gr (j8.move hx) h M
theorem Ga(hx:er L x=some v)(h:G P κ N ops Q rest ((d,v)::L) I)(M:Nat.blt d N.n=true:=by exact rfl):G P κ N ops Q (⟨some d,.assign x,ty,ps,af,none⟩::rest) L I:=Gr (j8.assign hx) h M
theorem e9(hr:j8 P κ N ⟨some d,q,ty,ps,af,gd⟩ L I v)(h:G P κ N ops Q rest ((d,v)::L) I)(M:q8 N ops ⟨some d,q,ty,ps,af,gd⟩ L:=by exact q8.on rfl rfl rfl)(hN:Nat.blt d N.n=true:=by exact rfl):G P κ N ops Q (⟨some d,q,ty,ps,af,gd⟩::rest) L I:=G.read M rfl hN hr h
theorem ee(h:G P κ N ops Q rest ((d,undef)::L) I)(M:H0 N ops ⟨some d,q,ty,ps,af,gd⟩ L:=by exact H0.und rfl rfl rfl)(hN:Nat.blt d N.n=true:=by exact rfl):G P κ N ops Q (⟨some d,q,ty,ps,af,gd⟩::rest) L I:=G.pass M rfl hN h
theorem eb(h:G P κ N ops Q rest ((d,undef)::L) I)(M:H0 N ops ⟨some d,q,ty,ps,af,gd⟩ L:=by exact H0.off rfl rfl rfl)(hN:Nat.blt d N.n=true:=by exact rfl):G P κ N ops Q (⟨some d,q,ty,ps,af,gd⟩::rest) L I:=G.pass M rfl hN h
theorem V.nx{σ:Type}{Lv:σ->Env}{Iv:σ->List Item}{p:σ->Prop}{μ:σ->Nat}{s:σ}(M:σ)(hp:p M)(hlt:μ M<μ s:=by (try dsimp only);omega)
  (hL:Sub L (Lv M):=by repeat (first|exact Sub.nil|refine Sub.cons rfl ?_|refine Sub.cons dx6 ?_|refine Sub.cons (dx5 rfl<|by first|rfl|simp) ?_)) (hI:Fit κ I (Iv M):=by (try dsimp only);exact Fit.s) :
  V κ N (Exit.then (ff5 κ N Lv Iv p μ s) Q) .normal L I:=V.next M hp hlt hL hI
theorem V.mi{σ:Type}{Lv:σ->Env}{Iv:σ->List Item}{p:σ->Prop}(s:σ)(M:p s)
  (hL:Sub L (Lv s):=by repeat (first|exact Sub.nil|refine Sub.cons rfl ?_|refine Sub.cons dx6 ?_|refine Sub.cons (dx5 rfl<|by first|rfl|simp) ?_)) (hI:Fit κ I (Iv s):=by (try dsimp only);exact Fit.s) :
  V κ N (Exit.then (gi6 κ N Lv Iv p) Q) .normal L I:=V.mid s M hL hI
theorem Dr{M:Array Bool}(i:Nat)(hi:ops[i]? = some ⟨some d,q,ty,ps,af,gd⟩)(aa:j8 P κ N ⟨some d,q,ty,ps,af,gd⟩ L J v)(h:D P κ N ops Q J stop fuel (M.setIfInBounds i true) ((d,v)::L) I)(hw:q8 N ops ⟨some d,q,ty,ps,af,gd⟩ L:=by exact q8.plain rfl)
  (hN:Nat.blt d N.n=true:=by exact rfl) (ae:Region.noSelect ops=true:=by kernel_rfl) (hf:Region.free .any ops M i=true:=by kernel_rfl)
  (hr:(Region.ready .any ops M).contains i=true:=by kernel_rfl) (ab:Nat.beq i stop=false:=by exact rfl) (ad:N5 .any ops stop i=true:=by kernel_rfl)
  (hQ:∀c a u w,Q (.panic c) (a.put (some d) u) w->Q (.panic c) a w:=by exact λ_ _ _ _ h=>h) (hJ:Fit κ I J:=by first|((repeat (first|exact Fit.refl _|apply Fit.tail|exact Fit.az4 _ _|apply Fit.do1));done)|(refine Fit.K6 ?_;(repeat (first|exact Jo _|apply List.Sublist.cons_cons|apply List.Sublist.cons|exact Gk _ _));done)|(refine Fit.sp ?_;(repeat (first|exact Sp.refl _|refine Sp.pick ta4 ?_|apply Sp.skip|exact Sp.az4 _ _));done)):D P κ N ops Q J stop (fuel+1) M L I:=D.read i hi ae hf hr ab ad hQ hw rfl hN hJ aa h
theorem Dro{M:Array Bool}(i:Nat)(hi:ops[i]? = some ⟨some d,q,ty,ps,af,gd⟩)(aa:j8 P κ N ⟨some d,q,ty,ps,af,gd⟩ L J v)(h:D P κ N ops Q J stop fuel (M.setIfInBounds i true) ((d,v)::L) I)(hw:q8 N ops ⟨some d,q,ty,ps,af,gd⟩ L:=by exact q8.on rfl rfl rfl)
  (hN:Nat.blt d N.n=true:=by exact rfl) (ae:Region.noSelect ops=true:=by kernel_rfl) (hf:Region.free .any ops M i=true:=by kernel_rfl)
  (hr:(Region.ready .any ops M).contains i=true:=by kernel_rfl) (ab:Nat.beq i stop=false:=by exact rfl) (ad:N5 .any ops stop i=true:=by kernel_rfl)
  (hQ:∀c a u w,Q (.panic c) (a.put (some d) u) w->Q (.panic c) a w:=by exact λ_ _ _ _ h=>h) (hJ:Fit κ I J:=by first|((repeat (first|exact Fit.refl _|apply Fit.tail|exact Fit.az4 _ _|apply Fit.do1));done)|(refine Fit.K6 ?_;(repeat (first|exact Jo _|apply List.Sublist.cons_cons|apply List.Sublist.cons|exact Gk _ _));done)|(refine Fit.sp ?_;(repeat (first|exact Sp.refl _|refine Sp.pick ta4 ?_|apply Sp.skip|exact Sp.az4 _ _));done)):D P κ N ops Q J stop (fuel+1) M L I:=D.read i hi ae hf hr ab ad hQ hw rfl hN hJ aa h
theorem Dpo{M:Array Bool}(i:Nat)(hi:ops[i]? = some ⟨some d,q,ty,ps,af,gd⟩)(h:D P κ N ops Q J stop fuel (M.setIfInBounds i true) ((d,undef)::L) I)(hw:H0 N ops ⟨some d,q,ty,ps,af,gd⟩ L:=by exact H0.off rfl rfl rfl)
  (hN:Nat.blt d N.n=true:=by exact rfl) (ad:Region.noSelect ops=true:=by kernel_rfl) (hf:Region.free .any ops M i=true:=by kernel_rfl)
  (hr:(Region.ready .any ops M).contains i=true:=by kernel_rfl) (aa:Nat.beq i stop=false:=by exact rfl) (ab:N5 .any ops stop i=true:=by kernel_rfl)
  (hQ:∀c a u w,Q (.panic c) (a.put (some d) u) w->Q (.panic c) a w:=by exact λ_ _ _ _ h=>h) (hJ:Fit κ I J:=by first|((repeat (first|exact Fit.refl _|apply Fit.tail|exact Fit.az4 _ _|apply Fit.do1));done)|(refine Fit.K6 ?_;(repeat (first|exact Jo _|apply List.Sublist.cons_cons|apply List.Sublist.cons|exact Gk _ _));done)|(refine Fit.sp ?_;(repeat (first|exact Sp.refl _|refine Sp.pick ta4 ?_|apply Sp.skip|exact Sp.az4 _ _));done)):D P κ N ops Q J stop (fuel+1) M L I:=D.pass i hi ad hf hr aa ab hQ hw rfl hN hJ h
theorem Ds1{M:Array Bool}(i:Nat)(h:Step P κ N ops Q J stop fuel M L I i)(hr:Region.ready .any ops M=[i]:=by kernel_rfl)(aa:([i]==[stop])=false:=by exact rfl):D P κ N ops Q J stop (fuel+1) M L I:=D.step hr rfl aa (gk9 h)
theorem Se{M:Array Bool}{R:Env->List Item->Prop}(hi:ops[i]? = some o)(he:Eff P κ N Q o L I R)(h:∀L' I',R L' I'->Fit κ I' J/\D P κ N ops Q J stop fuel (M.setIfInBounds i true) L' I')(hw:q8 N ops o L:=by first|exact q8.plain rfl|exact q8.on rfl rfl rfl):Step P κ N ops Q J stop fuel M L I i:=Step.eff hi hw he h
theorem Sr{M:Array Bool}(hi:ops[i]? = some ⟨some d,q,ty,ps,af,gd⟩)(hr:j8 P κ N ⟨some d,q,ty,ps,af,gd⟩ L I v)(hf:Fit κ I J)(h:D P κ N ops Q J stop fuel (M.setIfInBounds i true) ((d,v)::L) I)(hw:q8 N ops ⟨some d,q,ty,ps,af,gd⟩ L:=by first|exact q8.plain rfl|exact q8.on rfl rfl rfl)(hN:Nat.blt d N.n=true:=by exact rfl):Step P κ N ops Q J stop fuel M L I i:=Step.read hi hw rfl hN hr hf h
theorem Ae{M:Array Bool}(i:Nat){R:Env->List Item->Prop}(hi:ops[i]? = some o)(he:Eff P κ N Q o L I R)(h:∀L' I',R L' I'->A P κ N ops Q fuel (M.setIfInBounds i true) L' I')(hw:q8 N ops o L:=by first|exact q8.plain rfl|exact q8.on rfl rfl rfl)(hr:Region.ready .any ops M=[i]:=by kernel_rfl):A P κ N ops Q (fuel+1) M L I:=A.eff hr hi hw he h
theorem Gf{k off o:Nat}(h:U2 P T k=some off)(M:er L x=some (.pointer (some ⟨b,o,none⟩)))(hh:G P κ N ops Q rest ((d,.pointer (some ⟨b,o+off,none⟩))::L) I)(hN:Nat.blt d N.n=true:=by exact rfl):G P κ N ops Q (⟨some d,.fieldAddr T x k,ty,ps,af,none⟩::rest) L I:=Gr (j8.fieldAddr h M) hh hN
theorem Gl{o:Nat}(hT:tyF P T=some (sz,false,by',z))(h:G P κ N ops Q rest ((d,v)::L) I)(M:er L x=some (.pointer (some ⟨b,o,none⟩)):=by exact rfl)
  (hb:e8 b cs E∈I:=by repeat (first|exact A_|apply C_)) (hc:cs[o]? = some v:=by exact rfl) (hN:Nat.blt d N.n=true:=by exact rfl):G P κ N ops Q (⟨some d,.load T x,ty,ps,af,none⟩::rest) L I:=Gr (j8.load hT M hb hc) h hN
theorem Rad{d:Option Tmp}{T:TypeId}{n:Int}(M:er L x=some (e7 m))(hy:er L y=some (e7 n))(hr:InR (m+n):=by unfold InR;omega):j8 P κ N ⟨d,.binOp .add T x y U,ty,ps,af,gd⟩ L J (e7 (m+n)):=j8.add M hy hr
theorem Rsu{d:Option Tmp}{T:TypeId}{n:Int}(M:er L x=some (e7 m))(hy:er L y=some (e7 n))(hr:InR (m - n):=by unfold InR;omega):j8 P κ N ⟨d,.binOp .sub T x y U,ty,ps,af,gd⟩ L J (e7 (m - n)):=j8.sub M hy hr
theorem mm{x:Item}(h:x∈I:=by repeat (first|exact A_|apply C_)):x∈I:=h
theorem am{x y:Item}(h:At I x y I':=by repeat (first|exact At.head _ _ _|apply At.tail)):At I x y I':=h
theorem om{p:Prop}(h:p:=by omega):p:=h
theorem oo{p:Prop}(h:p:=by first|omega|(simp only [Fo];omega)):p:=h
theorem Gl2{o:Nat}(hT:tyF P T=some (sz,true,by',z))(h:G P κ N ops Q rest ((d,.agg #[M,v1])::L) I)(hx:er L x=some (.pointer (some ⟨b,o,none⟩)):=by exact rfl)
  (hb:e8 b cs E∈I:=by repeat (first|exact A_|apply C_)) (hc:(cs.drop o).take sz=[M,v1]:=by exact rfl) (hl:[M,v1].length=sz:=by exact rfl) (hN:Nat.blt d N.n=true:=by exact rfl):G P κ N ops Q (⟨some d,.load T x,ty,ps,af,none⟩::rest) L I:=Gr (j8.as0 hT hx hb hc hl) h hN
theorem Gl3{o:Nat}(hT:tyF P T=some (sz,true,by',z))(h:G P κ N ops Q rest ((d,.agg #[M,v1,v2])::L) I)(hx:er L x=some (.pointer (some ⟨b,o,none⟩)):=by exact rfl)
  (hb:e8 b cs E∈I:=by repeat (first|exact A_|apply C_)) (hc:(cs.drop o).take sz=[M,v1,v2]:=by exact rfl) (hl:[M,v1,v2].length=sz:=by exact rfl) (hN:Nat.blt d N.n=true:=by exact rfl):G P κ N ops Q (⟨some d,.load T x,ty,ps,af,none⟩::rest) L I:=Gr (j8.as0 hT hx hb hc hl) h hN
theorem Gl4{o:Nat}(hT:tyF P T=some (sz,true,by',z))(h:G P κ N ops Q rest ((d,.agg #[M,v1,v2,v3])::L) I)(hx:er L x=some (.pointer (some ⟨b,o,none⟩)):=by exact rfl)
  (hb:e8 b cs E∈I:=by repeat (first|exact A_|apply C_)) (hc:(cs.drop o).take sz=[M,v1,v2,v3]:=by exact rfl) (hl:[M,v1,v2,v3].length=sz:=by exact rfl) (hN:Nat.blt d N.n=true:=by exact rfl):G P κ N ops Q (⟨some d,.load T x,ty,ps,af,none⟩::rest) L I:=Gr (j8.as0 hT hx hb hc hl) h hN
theorem Gl6{o:Nat}(hT:tyF P T=some (sz,true,by',z))(h:G P κ N ops Q rest ((d,.agg #[M,v1,v2,v3,v4,v5])::L) I)(hx:er L x=some (.pointer (some ⟨b,o,none⟩)):=by exact rfl)
  (hb:e8 b cs E∈I:=by repeat (first|exact A_|apply C_)) (hc:(cs.drop o).take sz=[M,v1,v2,v3,v4,v5]:=by exact rfl) (hl:[M,v1,v2,v3,v4,v5].length=sz:=by exact rfl) (hN:Nat.blt d N.n=true:=by exact rfl):G P κ N ops Q (⟨some d,.load T x,ty,ps,af,none⟩::rest) L I:=Gr (j8.as0 hT hx hb hc hl) h hN
theorem Gl7{o:Nat}(hT:tyF P T=some (sz,true,by',z))(h:G P κ N ops Q rest ((d,.agg #[M,v1,v2,v3,v4,v5,v6])::L) I)(hx:er L x=some (.pointer (some ⟨b,o,none⟩)):=by exact rfl)
  (hb:e8 b cs E∈I:=by repeat (first|exact A_|apply C_)) (hc:(cs.drop o).take sz=[M,v1,v2,v3,v4,v5,v6]:=by exact rfl) (hl:[M,v1,v2,v3,v4,v5,v6].length=sz:=by exact rfl) (hN:Nat.blt d N.n=true:=by exact rfl):G P κ N ops Q (⟨some d,.load T x,ty,ps,af,none⟩::rest) L I:=Gr (j8.as0 hT hx hb hc hl) h hN
theorem gj3{o E:Nat}{c0 c1 e0 e1:Value}{I':List Item}(hT:tyF P T=some (sz,ag,by',z))(hx:er L x=some (.pointer (some ⟨b,o,none⟩)):=by exact rfl)(hy:er L y=some v:=by exact rfl)
  (hv:cellsOf v=[M,v1]:=by exact rfl) (hl:[M,v1].length=sz:=by exact rfl) (h1:G7 [M,v1]:=by repeat (first|exact G7.nil|refine G7.cons rfl ?_)) (ab:At I (e8 b [c0,c1] E) (e8 b [e0,e1] E) I':=by repeat (first|exact At.head _ _ _|apply At.tail)) (hr:o+[M,v1].length<=[c0,c1].length:=by exact Jf rfl) (aa:[c0,c1].take o++[M,v1]++[c0,c1].drop (o+[M,v1].length)=[e0,e1]:=by exact rfl) :
  Eff P κ N Q ⟨none,.store T x y,ty,ps,af,gd⟩ L I λL' I''=>L'=L/\I''=I':=Eff.st hT hx hy hv hl h1 ab hr aa
theorem gi9{o E:Nat}{c0 c1 c2 c3 c4 c5 e0 e1 e2 e3 e4 e5:Value}{I':List Item}(hT:tyF P T=some (sz,ag,by',z))(hx:er L x=some (.pointer (some ⟨b,o,none⟩)):=by exact rfl)(hy:er L y=some v:=by exact rfl)
  (hv:cellsOf v=[M,v1,v2,v3,v4,v5]:=by exact rfl) (hl:[M,v1,v2,v3,v4,v5].length=sz:=by exact rfl) (h1:G7 [M,v1,v2,v3,v4,v5]:=by repeat (first|exact G7.nil|refine G7.cons rfl ?_)) (aa:At I (e8 b [c0,c1,c2,c3,c4,c5] E) (e8 b [e0,e1,e2,e3,e4,e5] E) I':=by repeat (first|exact At.head _ _ _|apply At.tail)) (hr:o+[M,v1,v2,v3,v4,v5].length<=[c0,c1,c2,c3,c4,c5].length:=by exact Jf rfl) (ab:[c0,c1,c2,c3,c4,c5].take o++[M,v1,v2,v3,v4,v5]++[c0,c1,c2,c3,c4,c5].drop (o+[M,v1,v2,v3,v4,v5].length)=[e0,e1,e2,e3,e4,e5]:=by exact rfl) :
  Eff P κ N Q ⟨none,.store T x y,ty,ps,af,gd⟩ L I λL' I''=>L'=L/\I''=I':=Eff.st hT hx hy hv hl h1 aa hr ab
theorem gj4{o E:Nat}{c0 c1 e0 e1:Value}{I':List Item}(hT:tyF P T=some (sz,ag,by',z))(hx:er L x=some (.pointer (some ⟨b,o,none⟩)):=by exact rfl)(hy:er L y=some v:=by exact rfl)
  (hv:cellsOf v=[M]:=by exact rfl) (hl:[M].length=sz:=by exact rfl) (h1:G7 [M]:=by repeat (first|exact G7.nil|refine G7.cons rfl ?_)) (ab:At I (e8 b [c0,c1] E) (e8 b [e0,e1] E) I':=by repeat (first|exact At.head _ _ _|apply At.tail)) (hr:o+[M].length<=[c0,c1].length:=by exact Jf rfl) (aa:[c0,c1].take o++[M]++[c0,c1].drop (o+[M].length)=[e0,e1]:=by exact rfl) :
  Eff P κ N Q ⟨none,.store T x y,ty,ps,af,gd⟩ L I λL' I''=>L'=L/\I''=I':=Eff.st hT hx hy hv hl h1 ab hr aa
theorem gi8{o E:Nat}{c0 c1 c2 c3 c4 c5 c6 e0 e1 e2 e3 e4 e5 e6:Value}{I':List Item}(hT:tyF P T=some (sz,ag,by',z))(hx:er L x=some (.pointer (some ⟨b,o,none⟩)):=by exact rfl)(hy:er L y=some v:=by exact rfl)
  (hv:cellsOf v=[M]:=by exact rfl) (hl:[M].length=sz:=by exact rfl) (h1:G7 [M]:=by repeat (first|exact G7.nil|refine G7.cons rfl ?_)) (aa:At I (e8 b [c0,c1,c2,c3,c4,c5,c6] E) (e8 b [e0,e1,e2,e3,e4,e5,e6] E) I':=by repeat (first|exact At.head _ _ _|apply At.tail)) (hr:o+[M].length<=[c0,c1,c2,c3,c4,c5,c6].length:=by exact Jf rfl) (ab:[c0,c1,c2,c3,c4,c5,c6].take o++[M]++[c0,c1,c2,c3,c4,c5,c6].drop (o+[M].length)=[e0,e1,e2,e3,e4,e5,e6]:=by exact rfl) :
  Eff P κ N Q ⟨none,.store T x y,ty,ps,af,gd⟩ L I λL' I''=>L'=L/\I''=I':=Eff.st hT hx hy hv hl h1 aa hr ab
theorem gj0{o E:Nat}{c0 c1 c2 c3 c4 e0 e1 e2 e3 e4:Value}{I':List Item}(hT:tyF P T=some (sz,ag,by',z))(hx:er L x=some (.pointer (some ⟨b,o,none⟩)):=by exact rfl)(hy:er L y=some v:=by exact rfl)
  (hv:cellsOf v=[M,v1,v2,v3,v4]:=by exact rfl) (hl:[M,v1,v2,v3,v4].length=sz:=by exact rfl) (h1:G7 [M,v1,v2,v3,v4]:=by repeat (first|exact G7.nil|refine G7.cons rfl ?_)) (aa:At I (e8 b [c0,c1,c2,c3,c4] E) (e8 b [e0,e1,e2,e3,e4] E) I':=by repeat (first|exact At.head _ _ _|apply At.tail)) (hr:o+[M,v1,v2,v3,v4].length<=[c0,c1,c2,c3,c4].length:=by exact Jf rfl) (ab:[c0,c1,c2,c3,c4].take o++[M,v1,v2,v3,v4]++[c0,c1,c2,c3,c4].drop (o+[M,v1,v2,v3,v4].length)=[e0,e1,e2,e3,e4]:=by exact rfl) :
  Eff P κ N Q ⟨none,.store T x y,ty,ps,af,gd⟩ L I λL' I''=>L'=L/\I''=I':=Eff.st hT hx hy hv hl h1 aa hr ab
theorem au3{o E:Nat}{c0 c1 c2 c3 c4 c5 c6 e0 e1 e2 e3 e4 e5 e6:Value}{I':List Item}(hT:tyF P T=some (sz,ag,by',z))(hx:er L x=some (.pointer (some ⟨b,o,none⟩)):=by exact rfl)(hy:er L y=some v:=by exact rfl)
  (hv:cellsOf v=[M,v1,v2,v3,v4,v5,v6]:=by exact rfl) (hl:[M,v1,v2,v3,v4,v5,v6].length=sz:=by exact rfl) (h1:G7 [M,v1,v2,v3,v4,v5,v6]:=by repeat (first|exact G7.nil|refine G7.cons rfl ?_)) (aa:At I (e8 b [c0,c1,c2,c3,c4,c5,c6] E) (e8 b [e0,e1,e2,e3,e4,e5,e6] E) I':=by repeat (first|exact At.head _ _ _|apply At.tail)) (hr:o+[M,v1,v2,v3,v4,v5,v6].length<=[c0,c1,c2,c3,c4,c5,c6].length:=by exact Jf rfl) (ab:[c0,c1,c2,c3,c4,c5,c6].take o++[M,v1,v2,v3,v4,v5,v6]++[c0,c1,c2,c3,c4,c5,c6].drop (o+[M,v1,v2,v3,v4,v5,v6].length)=[e0,e1,e2,e3,e4,e5,e6]:=by exact rfl) :
  Eff P κ N Q ⟨none,.store T x y,ty,ps,af,gd⟩ L I λL' I''=>L'=L/\I''=I':=Eff.st hT hx hy hv hl h1 aa hr ab
theorem gj2{o E:Nat}{c0 c1 c2 e0 e1 e2:Value}{I':List Item}(hT:tyF P T=some (sz,ag,by',z))(hx:er L x=some (.pointer (some ⟨b,o,none⟩)):=by exact rfl)(hy:er L y=some v:=by exact rfl)
  (hv:cellsOf v=[M,v1,v2]:=by exact rfl) (hl:[M,v1,v2].length=sz:=by exact rfl) (h1:G7 [M,v1,v2]:=by repeat (first|exact G7.nil|refine G7.cons rfl ?_)) (ab:At I (e8 b [c0,c1,c2] E) (e8 b [e0,e1,e2] E) I':=by repeat (first|exact At.head _ _ _|apply At.tail)) (hr:o+[M,v1,v2].length<=[c0,c1,c2].length:=by exact Jf rfl) (aa:[c0,c1,c2].take o++[M,v1,v2]++[c0,c1,c2].drop (o+[M,v1,v2].length)=[e0,e1,e2]:=by exact rfl) :
  Eff P κ N Q ⟨none,.store T x y,ty,ps,af,gd⟩ L I λL' I''=>L'=L/\I''=I':=Eff.st hT hx hy hv hl h1 ab hr aa
theorem gj1{o E:Nat}{c0 c1 c2 c3 e0 e1 e2 e3:Value}{I':List Item}(hT:tyF P T=some (sz,ag,by',z))(hx:er L x=some (.pointer (some ⟨b,o,none⟩)):=by exact rfl)(hy:er L y=some v:=by exact rfl)
  (hv:cellsOf v=[M,v1,v2,v3]:=by exact rfl) (hl:[M,v1,v2,v3].length=sz:=by exact rfl) (h1:G7 [M,v1,v2,v3]:=by repeat (first|exact G7.nil|refine G7.cons rfl ?_)) (ab:At I (e8 b [c0,c1,c2,c3] E) (e8 b [e0,e1,e2,e3] E) I':=by repeat (first|exact At.head _ _ _|apply At.tail)) (hr:o+[M,v1,v2,v3].length<=[c0,c1,c2,c3].length:=by exact Jf rfl) (aa:[c0,c1,c2,c3].take o++[M,v1,v2,v3]++[c0,c1,c2,c3].drop (o+[M,v1,v2,v3].length)=[e0,e1,e2,e3]:=by exact rfl) :
  Eff P κ N Q ⟨none,.store T x y,ty,ps,af,gd⟩ L I λL' I''=>L'=L/\I''=I':=Eff.st hT hx hy hv hl h1 ab hr aa
theorem Ge0(he:Eff P κ N Q o L I (λL' I'=>L'=L1/\I'=I1))(h:G P κ N ops Q rest L1 I1)(M:q8 N ops o L:=by first|exact q8.plain rfl|exact q8.on rfl rfl rfl):G P κ N ops Q (o::rest) L I:=G.eff M he (by rintro _ _ ⟨rfl,rfl⟩;exact h)
theorem Se0{M:Array Bool}(hi:ops[i]? = some o)(he:Eff P κ N Q o L I (λL' I'=>L'=L1/\I'=I1))(h:D P κ N ops Q J stop fuel (M.setIfInBounds i true) L1 I1)(hw:q8 N ops o L:=by first|exact q8.plain rfl|exact q8.on rfl rfl rfl)(hf:Fit κ I1 J:=by first|((repeat (first|exact Fit.refl _|apply Fit.tail|exact Fit.az4 _ _|apply Fit.do1));done)|(refine Fit.K6 ?_;(repeat (first|exact Jo _|apply List.Sublist.cons_cons|apply List.Sublist.cons|exact Gk _ _));done)|(refine Fit.sp ?_;(repeat (first|exact Sp.refl _|refine Sp.pick ta4 ?_|apply Sp.skip|exact Sp.az4 _ _));done)):Step P κ N ops Q J stop fuel M L I i:=Step.eff hi hw he (by rintro _ _ ⟨rfl,rfl⟩;exact ⟨hf,h⟩)
theorem Ge1{τ:Type}{L1:τ->Env}{I1:τ->List Item}(he:Eff P κ N Q o L I (λL' I'=>∃b,L'=L1 b/\I'=I1 b))(h:∀b,G P κ N ops Q rest (L1 b) (I1 b))(M:q8 N ops o L:=by first|exact q8.plain rfl|exact q8.on rfl rfl rfl):G P κ N ops Q (o::rest) L I:=G.eff M he (by rintro _ _ ⟨b,rfl,rfl⟩;exact h b)
theorem Se1{M:Array Bool}{τ:Type}{L1:τ->Env}{I1:τ->List Item}(hi:ops[i]? = some o)(he:Eff P κ N Q o L I (λL' I'=>∃b,L'=L1 b/\I'=I1 b))(h:∀b,D P κ N ops Q J stop fuel (M.setIfInBounds i true) (L1 b) (I1 b))(hw:q8 N ops o L:=by first|exact q8.plain rfl|exact q8.on rfl rfl rfl)(hf:∀b,Fit κ (I1 b) J:=by intros;first|((repeat (first|exact Fit.refl _|apply Fit.tail|exact Fit.az4 _ _|apply Fit.do1));done)|(refine Fit.K6 ?_;(repeat (first|exact Jo _|apply List.Sublist.cons_cons|apply List.Sublist.cons|exact Gk _ _));done)|(refine Fit.sp ?_;(repeat (first|exact Sp.refl _|refine Sp.pick ta4 ?_|apply Sp.skip|exact Sp.az4 _ _));done)):Step P κ N ops Q J stop fuel M L I i:=Step.eff hi hw he (by rintro _ _ ⟨b,rfl,rfl⟩;exact ⟨hf b,h b⟩)
theorem Ge2{τ M:Type}{L1:τ->M->Env}{I1:τ->M->List Item}(he:Eff P κ N Q o L I (λL' I'=>∃b c,L'=L1 b c/\I'=I1 b c))(h:∀b c,G P κ N ops Q rest (L1 b c) (I1 b c))(hw:q8 N ops o L:=by first|exact q8.plain rfl|exact q8.on rfl rfl rfl):G P κ N ops Q (o::rest) L I:=G.eff hw he (by rintro _ _ ⟨b,c,rfl,rfl⟩;exact h b c)
theorem Se2{M:Array Bool}{τ τ1:Type}{L1:τ->τ1->Env}{I1:τ->τ1->List Item}(hi:ops[i]? = some o)(he:Eff P κ N Q o L I (λL' I'=>∃b c,L'=L1 b c/\I'=I1 b c))(h:∀b c,D P κ N ops Q J stop fuel (M.setIfInBounds i true) (L1 b c) (I1 b c))(hw:q8 N ops o L:=by first|exact q8.plain rfl|exact q8.on rfl rfl rfl)(hf:∀b c,Fit κ (I1 b c) J:=by intros;first|((repeat (first|exact Fit.refl _|apply Fit.tail|exact Fit.az4 _ _|apply Fit.do1));done)|(refine Fit.K6 ?_;(repeat (first|exact Jo _|apply List.Sublist.cons_cons|apply List.Sublist.cons|exact Gk _ _));done)|(refine Fit.sp ?_;(repeat (first|exact Sp.refl _|refine Sp.pick ta4 ?_|apply Sp.skip|exact Sp.az4 _ _));done)):Step P κ N ops Q J stop fuel M L I i:=Step.eff hi hw he (by rintro _ _ ⟨b,c,rfl,rfl⟩;exact ⟨hf b c,h b c⟩)
theorem Gc0(he:Eff P κ N Q o L I (λL' I'=>∃v J',(v=M/\I1=J')/\L'=(dd,v)::L/\J'=I'))(h:G P κ N ops Q rest ((dd,M)::L) I1)(hw:q8 N ops o L:=by first|exact q8.plain rfl|exact q8.on rfl rfl rfl):G P κ N ops Q (o::rest) L I:=G.eff hw he (by rintro _ _ ⟨_,_,⟨rfl,rfl⟩,rfl,rfl⟩;exact h)
theorem Sc0{M:Array Bool}(hi:ops[i]? = some o)(he:Eff P κ N Q o L I (λL' I'=>∃v J',(v=v0/\I1=J')/\L'=(dd,v)::L/\J'=I'))(h:D P κ N ops Q J stop fuel (M.setIfInBounds i true) ((dd,v0)::L) I1)(hw:q8 N ops o L:=by first|exact q8.plain rfl|exact q8.on rfl rfl rfl)(hf:Fit κ I1 J:=by first|((repeat (first|exact Fit.refl _|apply Fit.tail|exact Fit.az4 _ _|apply Fit.do1));done)|(refine Fit.K6 ?_;(repeat (first|exact Jo _|apply List.Sublist.cons_cons|apply List.Sublist.cons|exact Gk _ _));done)|(refine Fit.sp ?_;(repeat (first|exact Sp.refl _|refine Sp.pick ta4 ?_|apply Sp.skip|exact Sp.az4 _ _));done)):Step P κ N ops Q J stop fuel M L I i:=Step.eff hi hw he (by rintro _ _ ⟨_,_,⟨rfl,rfl⟩,rfl,rfl⟩;exact ⟨hf,h⟩)
theorem Gc1(he:Eff P κ N Q o L I (λL' I'=>∃v J',(v=M/\J'=I1)/\L'=(dd,v)::L/\J'=I'))(h:G P κ N ops Q rest ((dd,M)::L) I1)(hw:q8 N ops o L:=by first|exact q8.plain rfl|exact q8.on rfl rfl rfl):G P κ N ops Q (o::rest) L I:=G.eff hw he (by rintro _ _ ⟨_,_,⟨rfl,rfl⟩,rfl,rfl⟩;exact h)
theorem Gc2{τ M:Type}{v0:τ->M->Value}{I1:τ->M->List Item}(he:Eff P κ N Q o L I (λL' I'=>∃v J',(∃b c,v=v0 b c/\J'=I1 b c)/\L'=(dd,v)::L/\J'=I'))(h:∀b c,G P κ N ops Q rest ((dd,v0 b c)::L) (I1 b c))(hw:q8 N ops o L:=by first|exact q8.plain rfl|exact q8.on rfl rfl rfl):G P κ N ops Q (o::rest) L I:=G.eff hw he (by rintro _ _ ⟨_,_,⟨b,c,rfl,rfl⟩,rfl,rfl⟩;exact h b c)
theorem Sc2{M:Array Bool}{τ τ1:Type}{v0:τ->τ1->Value}{I1:τ->τ1->List Item}(hi:ops[i]? = some o)(he:Eff P κ N Q o L I (λL' I'=>∃v J',(∃b c,v=v0 b c/\J'=I1 b c)/\L'=(dd,v)::L/\J'=I'))(h:∀b c,D P κ N ops Q J stop fuel (M.setIfInBounds i true) ((dd,v0 b c)::L) (I1 b c))(hw:q8 N ops o L:=by first|exact q8.plain rfl|exact q8.on rfl rfl rfl)(hf:∀b c,Fit κ (I1 b c) J:=by intros;first|((repeat (first|exact Fit.refl _|apply Fit.tail|exact Fit.az4 _ _|apply Fit.do1));done)|(refine Fit.K6 ?_;(repeat (first|exact Jo _|apply List.Sublist.cons_cons|apply List.Sublist.cons|exact Gk _ _));done)|(refine Fit.sp ?_;(repeat (first|exact Sp.refl _|refine Sp.pick ta4 ?_|apply Sp.skip|exact Sp.az4 _ _));done)):Step P κ N ops Q J stop fuel M L I i:=Step.eff hi hw he (by rintro _ _ ⟨_,_,⟨b,c,rfl,rfl⟩,rfl,rfl⟩;exact ⟨hf b c,h b c⟩)
theorem Dz{M:Array Bool}(h:V κ N Q .normal L I)(hr:Region.ready .any ops M=[]:=by kernel_rfl):D P κ N ops Q J stop fuel M L I:=D.done hr h
theorem Ce0{f:FuncId}{M:Func}{c:Code}{Post:Value->List Item->Prop}(hf:P.funcs[f]? = some M)(hb:M.body=some c)(hN:M.ntmps=n)(h:W P κ ⟨n,[]⟩ c (bodyPost P M (ch5 κ Post)) [] I)(hl:Nat.ble 0 n=true:=by exact rfl):eu P κ f [] I Post:=eu.enter hf hb hN hl rfl h
theorem Ce1{f:FuncId}{M:Func}{c:Code}{Post:Value->List Item->Prop}(hf:P.funcs[f]? = some M)(hb:M.body=some c)(hN:M.ntmps=n)(h:W P κ ⟨n,[]⟩ c (bodyPost P M (ch5 κ Post)) [(0,v0)] I)(hl:Nat.ble 1 n=true:=by exact rfl):eu P κ f [v0] I Post:=eu.enter hf hb hN hl rfl h
theorem Ce2{f:FuncId}{M:Func}{c:Code}{Post:Value->List Item->Prop}(hf:P.funcs[f]? = some M)(hb:M.body=some c)(hN:M.ntmps=n)(h:W P κ ⟨n,[]⟩ c (bodyPost P M (ch5 κ Post)) [(0,v0),(1,v1)] I)(hl:Nat.ble 2 n=true:=by exact rfl):eu P κ f [v0,v1] I Post:=eu.enter hf hb hN hl rfl h
theorem Ce3{f:FuncId}{M:Func}{c:Code}{Post:Value->List Item->Prop}(hf:P.funcs[f]? = some M)(hb:M.body=some c)(hN:M.ntmps=n)(h:W P κ ⟨n,[]⟩ c (bodyPost P M (ch5 κ Post)) [(0,v0),(1,v1),(2,v2)] I)(hl:Nat.ble 3 n=true:=by exact rfl):eu P κ f [v0,v1,v2] I Post:=eu.enter hf hb hN hl rfl h
theorem Ce4{f:FuncId}{M:Func}{c:Code}{Post:Value->List Item->Prop}(hf:P.funcs[f]? = some M)(hb:M.body=some c)(hN:M.ntmps=n)(h:W P κ ⟨n,[]⟩ c (bodyPost P M (ch5 κ Post)) [(0,v0),(1,v1),(2,v2),(3,v3)] I)(hl:Nat.ble 4 n=true:=by exact rfl):eu P κ f [v0,v1,v2,v3] I Post:=eu.enter hf hb hN hl rfl h
theorem Ce5{f:FuncId}{M:Func}{c:Code}{Post:Value->List Item->Prop}(hf:P.funcs[f]? = some M)(hb:M.body=some c)(hN:M.ntmps=n)(h:W P κ ⟨n,[]⟩ c (bodyPost P M (ch5 κ Post)) [(0,v0),(1,v1),(2,v2),(3,v3),(4,v4)] I)(hl:Nat.ble 5 n=true:=by exact rfl):eu P κ f [v0,v1,v2,v3,v4] I Post:=eu.enter hf hb hN hl rfl h
theorem Ce6{f:FuncId}{M:Func}{c:Code}{Post:Value->List Item->Prop}(hf:P.funcs[f]? = some M)(hb:M.body=some c)(hN:M.ntmps=n)(h:W P κ ⟨n,[]⟩ c (bodyPost P M (ch5 κ Post)) [(0,v0),(1,v1),(2,v2),(3,v3),(4,v4),(5,v5)] I)(hl:Nat.ble 6 n=true:=by exact rfl):eu P κ f [v0,v1,v2,v3,v4,v5] I Post:=eu.enter hf hb hN hl rfl h
theorem S1(k1:Nat)(h1:look L k1=some M:=by exact rfl):Sub L [(k1,M)]:= .cons h1 .nil
theorem S2(k1 k2:Nat)(h1:look L k1=some M:=by exact rfl)(h2:look L k2=some v2:=by exact rfl):Sub L [(k1,M),(k2,v2)]:= .cons h1 (.cons h2 .nil)
theorem S3(k1 k2 M:Nat)(h1:look L k1=some v1:=by exact rfl)(h2:look L k2=some v2:=by exact rfl)(h3:look L M=some v3:=by exact rfl):Sub L [(k1,v1),(k2,v2),(M,v3)]:= .cons h1 (.cons h2 (.cons h3 .nil))
theorem S4(k1 k2 M k4:Nat)(h1:look L k1=some v1:=by exact rfl)(h2:look L k2=some v2:=by exact rfl)(h3:look L M=some v3:=by exact rfl)(h4:look L k4=some v4:=by exact rfl):Sub L [(k1,v1),(k2,v2),(M,v3),(k4,v4)]:= .cons h1 (.cons h2 (.cons h3 (.cons h4 .nil)))
theorem S5(k1 k2 M k4 k5:Nat)(h1:look L k1=some v1:=by exact rfl)(h2:look L k2=some v2:=by exact rfl)(h3:look L M=some v3:=by exact rfl)(h4:look L k4=some v4:=by exact rfl)(h5:look L k5=some v5:=by exact rfl):Sub L [(k1,v1),(k2,v2),(M,v3),(k4,v4),(k5,v5)]:= .cons h1 (.cons h2 (.cons h3 (.cons h4 (.cons h5 .nil))))
theorem S6(k1 k2 M k4 k5 k6:Nat)(h1:look L k1=some v1:=by exact rfl)(h2:look L k2=some v2:=by exact rfl)(h3:look L M=some v3:=by exact rfl)(h4:look L k4=some v4:=by exact rfl)(h5:look L k5=some v5:=by exact rfl)(h6:look L k6=some v6:=by exact rfl):Sub L [(k1,v1),(k2,v2),(M,v3),(k4,v4),(k5,v5),(k6,v6)]:= .cons h1 (.cons h2 (.cons h3 (.cons h4 (.cons h5 (.cons h6 .nil)))))
theorem S7(k1 k2 k3 k4 k5 M k7:Nat)(h1:look L k1=some v1:=by exact rfl)(h2:look L k2=some v2:=by exact rfl)(h3:look L k3=some v3:=by exact rfl)(h4:look L k4=some v4:=by exact rfl)(h5:look L k5=some v5:=by exact rfl)(h6:look L M=some v6:=by exact rfl)(h7:look L k7=some v7:=by exact rfl):Sub L [(k1,v1),(k2,v2),(k3,v3),(k4,v4),(k5,v5),(M,v6),(k7,v7)]:= .cons h1 (.cons h2 (.cons h3 (.cons h4 (.cons h5 (.cons h6 (.cons h7 .nil))))))
theorem S8(k1 k2 k3 k4 k5 M k7 k8:Nat)(h1:look L k1=some v1:=by exact rfl)(h2:look L k2=some v2:=by exact rfl)(h3:look L k3=some v3:=by exact rfl)(h4:look L k4=some v4:=by exact rfl)(h5:look L k5=some v5:=by exact rfl)(h6:look L M=some v6:=by exact rfl)(h7:look L k7=some v7:=by exact rfl)(h8:look L k8=some v8:=by exact rfl):Sub L [(k1,v1),(k2,v2),(k3,v3),(k4,v4),(k5,v5),(M,v6),(k7,v7),(k8,v8)]:= .cons h1 (.cons h2 (.cons h3 (.cons h4 (.cons h5 (.cons h6 (.cons h7 (.cons h8 .nil)))))))
theorem S9(k1 k2 k3 k4 k5 M k7 k8 k9:Nat)(h1:look L k1=some v1:=by exact rfl)(h2:look L k2=some v2:=by exact rfl)(h3:look L k3=some v3:=by exact rfl)(h4:look L k4=some v4:=by exact rfl)(h5:look L k5=some v5:=by exact rfl)(h6:look L M=some v6:=by exact rfl)(h7:look L k7=some v7:=by exact rfl)(h8:look L k8=some v8:=by exact rfl)(h9:look L k9=some v9:=by exact rfl):Sub L [(k1,v1),(k2,v2),(k3,v3),(k4,v4),(k5,v5),(M,v6),(k7,v7),(k8,v8),(k9,v9)]:= .cons h1 (.cons h2 (.cons h3 (.cons h4 (.cons h5 (.cons h6 (.cons h7 (.cons h8 (.cons h9 .nil))))))))
theorem S10(k1 k2 k3 k4 k5 k6 k7 k8 k9 M:Nat)(h1:look L k1=some v1:=by exact rfl)(h2:look L k2=some v2:=by exact rfl)(h3:look L k3=some v3:=by exact rfl)(h4:look L k4=some v4:=by exact rfl)(h5:look L k5=some v5:=by exact rfl)(h6:look L k6=some v6:=by exact rfl)(h7:look L k7=some v7:=by exact rfl)(h8:look L k8=some v8:=by exact rfl)(h9:look L k9=some v9:=by exact rfl)(ab:look L M=some aa:=by exact rfl):Sub L [(k1,v1),(k2,v2),(k3,v3),(k4,v4),(k5,v5),(k6,v6),(k7,v7),(k8,v8),(k9,v9),(M,aa)]:= .cons h1 (.cons h2 (.cons h3 (.cons h4 (.cons h5 (.cons h6 (.cons h7 (.cons h8 (.cons h9 (.cons ab .nil)))))))))
theorem S11(k1 k2 k3 k4 k5 k6 k7 k8 k9 M ab:Nat)(h1:look L k1=some v1:=by exact rfl)(h2:look L k2=some v2:=by exact rfl)(h3:look L k3=some v3:=by exact rfl)(h4:look L k4=some v4:=by exact rfl)(h5:look L k5=some v5:=by exact rfl)(h6:look L k6=some v6:=by exact rfl)(h7:look L k7=some v7:=by exact rfl)(h8:look L k8=some v8:=by exact rfl)(h9:look L k9=some v9:=by exact rfl)(ah:look L M=some ad:=by exact rfl)(ae:look L ab=some aa:=by exact rfl):Sub L [(k1,v1),(k2,v2),(k3,v3),(k4,v4),(k5,v5),(k6,v6),(k7,v7),(k8,v8),(k9,v9),(M,ad),(ab,aa)]:= .cons h1 (.cons h2 (.cons h3 (.cons h4 (.cons h5 (.cons h6 (.cons h7 (.cons h8 (.cons h9 (.cons ah (.cons ae .nil))))))))))
theorem S12{ah:Value}(k1 k2 k3 k4 k5 k6 k7 k8 k9 aa ae ad:Nat)(h1:look L k1=some v1)(h2:look L k2=some v2)(h3:look L k3=some v3)(h4:look L k4=some v4)(h5:look L k5=some v5)(h6:look L k6=some v6)(h7:look L k7=some v7)(h8:look L k8=some v8)(h9:look L k9=some v9)(ak:look L aa=some ah)(ai:look L ae=some ab)(aj:look L ad=some M):Sub L [(k1,v1),(k2,v2),(k3,v3),(k4,v4),(k5,v5),(k6,v6),(k7,v7),(k8,v8),(k9,v9),(aa,ah),(ae,ab),(ad,M)]:= .cons h1 (.cons h2 (.cons h3 (.cons h4 (.cons h5 (.cons h6 (.cons h7 (.cons h8 (.cons h9 (.cons ak (.cons ai (.cons aj .nil)))))))))))
theorem S13(k1 k2 k3 k4 k5 k6 k7 k8 k9 ah ae ai aa:Nat)(h1:look L k1=some v1:=by exact rfl)(h2:look L k2=some v2:=by exact rfl)(h3:look L k3=some v3:=by exact rfl)(h4:look L k4=some v4:=by exact rfl)(h5:look L k5=some v5:=by exact rfl)(h6:look L k6=some v6:=by exact rfl)(h7:look L k7=some v7:=by exact rfl)(h8:look L k8=some v8:=by exact rfl)(h9:look L k9=some v9:=by exact rfl)(ap:look L ah=some aj:=by exact rfl)(an:look L ae=some ad:=by exact rfl)(ao:look L ai=some M:=by exact rfl)(ak:look L aa=some ab:=by exact rfl):Sub L [(k1,v1),(k2,v2),(k3,v3),(k4,v4),(k5,v5),(k6,v6),(k7,v7),(k8,v8),(k9,v9),(ah,aj),(ae,ad),(ai,M),(aa,ab)]:= .cons h1 (.cons h2 (.cons h3 (.cons h4 (.cons h5 (.cons h6 (.cons h7 (.cons h8 (.cons h9 (.cons ap (.cons an (.cons ao (.cons ak .nil))))))))))))
theorem S15{ap:Value}(k1 k2 k3 k4 k5 k6 k7 k8 k9 an ae ao aa ah aj:Nat)(h1:look L k1=some v1)(h2:look L k2=some v2)(h3:look L k3=some v3)(h4:look L k4=some v4)(h5:look L k5=some v5)(h6:look L k6=some v6)(h7:look L k7=some v7)(h8:look L k8=some v8)(h9:look L k9=some v9)(ax:look L an=some ap)(av:look L ae=some ad)(aw:look L ao=some M)(au:look L aa=some ab)(ar:look L ah=some ak)(aq:look L aj=some ai):Sub L [(k1,v1),(k2,v2),(k3,v3),(k4,v4),(k5,v5),(k6,v6),(k7,v7),(k8,v8),(k9,v9),(an,ap),(ae,ad),(ao,M),(aa,ab),(ah,ak),(aj,ai)]:= .cons h1 (.cons h2 (.cons h3 (.cons h4 (.cons h5 (.cons h6 (.cons h7 (.cons h8 (.cons h9 (.cons ax (.cons av (.cons aw (.cons au (.cons ar (.cons aq .nil))))))))))))))
theorem S16{ar aq:Value}(k1 k2 k3 k4 k5 k6 k7 k8 k9 an ae ap aa ah aj ao:Nat)(h1:look L k1=some v1)(h2:look L k2=some v2)(h3:look L k3=some v3)(h4:look L k4=some v4)(h5:look L k5=some v5)(h6:look L k6=some v6)(h7:look L k7=some v7)(h8:look L k8=some v8)(h9:look L k9=some v9)(a0:look L an=some ar)(ax:look L ae=some ad)(ay:look L ap=some M)(aw:look L aa=some ab)(av:look L ah=some ak)(au:look L aj=some ai)(az:look L ao=some aq):Sub L [(k1,v1),(k2,v2),(k3,v3),(k4,v4),(k5,v5),(k6,v6),(k7,v7),(k8,v8),(k9,v9),(an,ar),(ae,ad),(ap,M),(aa,ab),(ah,ak),(aj,ai),(ao,aq)]:= .cons h1 (.cons h2 (.cons h3 (.cons h4 (.cons h5 (.cons h6 (.cons h7 (.cons h8 (.cons h9 (.cons a0 (.cons ax (.cons ay (.cons aw (.cons av (.cons au (.cons az .nil)))))))))))))))
theorem S17{av an au:Value}(k1 k2 k3 k4 k5 k6 k7 k8 k9 ap ae ar aa ah ak aq ao:Nat)(h1:look L k1=some v1)(h2:look L k2=some v2)(h3:look L k3=some v3)(h4:look L k4=some v4)(h5:look L k5=some v5)(h6:look L k6=some v6)(h7:look L k7=some v7)(h8:look L k8=some v8)(h9:look L k9=some v9)(a4:look L ap=some av)(a0:look L ae=some ad)(a1:look L ar=some M)(az:look L aa=some ab)(ay:look L ah=some an)(ax:look L ak=some aj)(a3:look L aq=some au)(aw:look L ao=some ai):Sub L [(k1,v1),(k2,v2),(k3,v3),(k4,v4),(k5,v5),(k6,v6),(k7,v7),(k8,v8),(k9,v9),(ap,av),(ae,ad),(ar,M),(aa,ab),(ah,an),(ak,aj),(aq,au),(ao,ai)]:= .cons h1 (.cons h2 (.cons h3 (.cons h4 (.cons h5 (.cons h6 (.cons h7 (.cons h8 (.cons h9 (.cons a4 (.cons a0 (.cons a1 (.cons az (.cons ay (.cons ax (.cons a3 (.cons aw .nil))))))))))))))))
end
end Go.Sl
namespace Go.Sl
open Go.RowKit (Below)
variable{x y:Operand}{E T by' c h n sz:Nat}{ag:Bool}{z:List Value}{U:TypeId}{m:Int}{ad:Option Addr}
def EqT(P:Program)(T:TypeId)(α:Type)[Enc α][DecidableEq α]:Prop:=
 (∀(x y:α) (w:World),(Op.equalIn 10000 T (.agg (Enc.enc x).toArray)<|.agg (Enc.enc y).toArray).run P w = .ok (decide<|x=y) w)/\P.eqGuardType P.depth T=false
section
variable {P:Program}{κ:Ctx}{N:Frm}{Q:Exit->Act->World->Prop}{L:Env}{I J:List Item}
variable {d:Option Tmp}{ty:TypeId}{ps:String}{af:Array Edge}{gd:Option (Nat×Bool)}
theorem j8.fz7{b o:Nat}{i:Int}(ht:P.underlying T=some (.array n E))(hE:tyF P E=some (sz,ag,by',z))(hx:er L x=some (.pointer (some ⟨b,o,none⟩)))
  (hy:er L y=some (e7 i)) (h0:0<=i) (hn:i<n):j8 P κ N ⟨d,.indexAddr T x y,ty,ps,af,gd⟩ L J (.pointer<|some ⟨b,o+i.toNat*sz,none⟩):=
 λa w M hs=>by
  simp [execOp,M.eval hx,M.eval hy,Instr.indexAt,asIntOf,run_underlying ht,h0,hn,run_sizeOf hE,Instr.sureAddr,G9]
theorem j8.fu1{α:Type}[Enc α][DecidableEq α]{T:TypeId}{a b:α}(h:EqT P T α)(hx:er L x=some (.agg (Enc.enc a).toArray))(hy:er L y=some (.agg (Enc.enc b).toArray)) :
  j8 P κ N ⟨d,.binOp .eql T x y U,ty,ps,af,gd⟩ L J (.bool<|decide<|a=b):=λaa w M _=>by
 have hg:=run_eqGuard_agg w .eql T x y (Enc.enc a).toArray (Enc.enc b).toArray h.2
 simp only [execOp,M.eval hx,M.eval hy]
 simp [hg,run_eql_struct,h.1]
theorem j8.fz0{α:Type}[Enc α][DecidableEq α]{T:TypeId}{a b:α}(h:EqT P T α)(hx:er L x=some (.agg (Enc.enc a).toArray))(hy:er L y=some (.agg (Enc.enc b).toArray)) :
  j8 P κ N ⟨d,.binOp .neq T x y U,ty,ps,af,gd⟩ L J (.bool<|decide<|a≠b):=λaa w M _=>by
 have hg:=run_eqGuard_agg w .neq T x y (Enc.enc a).toArray (Enc.enc b).toArray h.2
 simp only [execOp,M.eval hx,M.eval hy]
 simp [hg,run_neq_struct,h.1]
theorem j8.quo{T:TypeId}{n:Int}(hx:er L x=some (e7 m))(hy:er L y=some (e7 n))(M:0<=m)(h1:0<n)(hr:InR m):j8 P κ N ⟨d,.binOp .quo T x y U,ty,ps,af,gd⟩ L J (e7 (m / n)):=by
 have h:=j8.quow (P:=P) (κ:=κ) (N:=N) (J:=J) (d:=d) (ty:=ty) (ps:=ps) (af:=af) (gd:=gd) (T:=T) (U:=U) hx hy (by omega)
 have e:IntKind.i64.wrap (Int.tdiv m n)=m / n:=by
  rw [Int.tdiv_eq_ediv_of_nonneg M]
  refine InR.wrap ?_
  have h2:m / n<=m:=Int.ediv_le_self n M
  have h3:0<=m / n:=Int.ediv_nonneg M (by omega)
  unfold InR at *; omega
 rwa [e] at h
theorem j8.fb6{aa ab:Nat}{ai:Bool}{z' cells:List Value}{M:List (Nat×Operand)}{vs:List Value}(hT:tyF P T=some (sz,ag,by',z))(ht:P.underlying T=some (.array n E))(hE:tyF P E=some (aa,ai,ab,z'))
  (hp:T5 L (M.map (·.2))=some vs) (hf:Instr.fill (λi=>some (i*aa,aa)) z.toArray ((M.map (·.1)).zip vs)=some cells.toArray):j8 P κ N ⟨d,.build T M.toArray,ty,ps,af,gd⟩ L J (.agg cells.toArray):=
 λa w ha hs=>by
  obtain ⟨zv,hz,ae⟩:=aa1 hT w
  have ah:M.map (λp=>(p.1,a.eval p.2))=(M.map (·.1)).zip vs:=by
   rw [←ha.T5 hp]
   clear hp hf
   induction M with
   |nil=>rfl
   |cons p ps ih=>simp [ih]
  have ad:List.map (λx:Nat×Operand=>match x with |(i,x)=>(i,a.eval x)) M=(M.map (·.1)).zip vs:=ah
  simp only [execOp,Instr.build,Sem.run_bind,hz,Result.andThen_ok,run_underlying ht,run_sizeOf hE,Jp,ad,ae,hf,Sem.run_pure]
theorem j8.hi3{α:Type}[Enc α]{xs:List α}{y':Operand}(ht:P.underlying T=some (.slice E))(hE:tyF P E=some (Enc.sz α,ag,by',z))(hx:er L x=some (.slice ad n c))(hy:er L y=some (e7 m))(M:er L y'=some (e7 m))(hm:m=(h:Int))
  (hv:Sl κ J (.slice ad n c) xs) (hh:h<=xs.length) (h1:0<h):j8 P κ N ⟨d,.slice T x none (some y)<|some y',ty,ps,af,gd⟩ L J (.slice ad (xs.take h).length h):=λa w ha hs=>by
 subst hm
 obtain ⟨_,_,he,_,h2,_⟩:=hv w hs
 cases he
 have hc:h<=c:=by omega
 have h3:((h:Int)<=(c:Int)):=by omega
 have ab:(Instr.sliceBounds true xs.length c none (some<|a.eval y)<|some<|a.eval y').run P w = .ok (0,h,h) w:=by
  simp [Instr.sliceBounds,ha.eval hy,ha.eval M,Instr.sliceBound,asIntOf,hc]
 have aa:¬h=0:=by omega
 have e:ad.map (λx=>x.add 0)=ad:=by cases ad<;>simp [Addr.add]
 simp [execOp,Instr.sliceAt,Instr.slice,run_underlying ht,ha.eval hx,ab,run_sizeOf hE,aa,e,Fp,Mi hh]
theorem Sl.ge3{α:Type}[Enc α]{xs:List α}(hv:Sl κ I (.slice ad n c) xs)(hh:h<=xs.length):Sl κ I (.slice ad (xs.take h).length h) (xs.take h):=λw hs=>by
 obtain ⟨a,cap,he,h1,h2,h3,h4⟩:=hv w hs
 cases he
 refine ⟨ad,h,rfl,r9 _,by rw [Fp];omega,by omega,λhc=>?_⟩
 obtain ⟨b,off,rfl,hr⟩:=h4 (by omega)
 refine ⟨b,off,rfl,λj u M=>hr j u ?_⟩
 rw [R3,Je] at M
 split at M
 ·exact M
 cases M
theorem V.gc9{fn:Func}{t u s:Tmp}{v v' M:Value}{Post:Value->List Item->Prop}(hr:fn.results = #[.tmp t,.tmp u,.tmp s])(hv:look L t=some v)(ab:look L u=some v')(aa:look L s=some M)(J:List Item)(hf:Fit κ I J)(hp:Post (.tuple #[v,v',M]) J)(h0:N.ds=[]:=by rfl):V κ N (bodyPost P fn (ch5 κ Post)) .ret L I:=
 λa w ha hs=>bodyPost_ret (v:= .tuple #[v,v',M]) (by simp [results,hr,ha.get t v hv,ha.get u v' ab,ha.get s M aa]) (ha.defers.trans h0) ⟨_,J,rfl,hp,hf w hs⟩
end
structure G1 (α:Type) where
 a:Option Addr
 c:Nat
 xs:List α
instance {α:Type}:Inhabited (G1 α):=⟨⟨none,0,[]⟩⟩
instance {α:Type}:Enc (G1 α):=⟨λr=>[.slice r.a r.xs.length r.c],1,by omega,λ_=>rfl,λr u hu=>by
 simp only [Fw,Kb,Mo] at hu
 rcases hu with rfl
 rfl⟩
end Go.Sl
namespace Go.Sl
open Go.RowKit (Below)
variable{e:TypeId}{ad:Option Addr}{E T b by' c h n sz:Nat}{x:Operand}{cs z:List Value}
theorem bo8{z:Array Value}(h:∀u∈z,u.oneCell'=true)(n:Nat):∀u∈(Builtin.zeroCells z n).toList,u.oneCell'=true:=λu hu=>by
 simp only [Builtin.zeroCells,Md,Gv,Ll,Hz] at hu
 obtain ⟨i,hi,rfl⟩:=hu
 have hz:0<z.size:=Ky λe=>by rw [e] at hi;simp at hi
 have M:i % z.size<z.size:=Nat.mod_lt _ hz
 rw [Lf z _ M]
 exact h _<|Array.getElem_mem M
section
variable {P:Program}{κ:Ctx}{N:Frm}{Q:Exit->Act->World->Prop}{L:Env}{I J:List Item}
variable {d:Option Tmp}{ty:TypeId}{ps:String}{af:Array Edge}{gd:Option (Nat×Bool)}
variable {α:Type}[Enc α]{xs:List α}
theorem fa6(hh:h<=xs.length):∀w,(vc e (.slice ad n c) xs).ok w->(vc e (.slice ad (xs.take h).length c) (xs.take h)).ok w/\
  ∀k,(vc e (.slice ad (xs.take h).length c)<|xs.take h).fp k->(vc e (.slice ad n c) xs).fp k:=by
 intro w hw
 obtain ⟨a,cap,hv,h1,h2,h3,h4⟩:=hw
 cases hv
 refine ⟨⟨ad,c,rfl,r9 _,by rw [Fp];omega,h3,λhc=>?_⟩,λk hk=>?_⟩
 ·obtain ⟨b,off,ab,rfl,hb,aa,M⟩:=h4 hc
  refine ⟨b,off,ab,rfl,hb,aa,λj u hj=>M j u ?_⟩
  rw [R3,Je] at hj
  split at hj
  ·exact hj
  cases hj
 obtain ⟨off,n',ae,hv,hc⟩:=hk
 simp only [Value.slice.injEq] at hv
 obtain ⟨rfl,_,rfl⟩:=hv
 exact ⟨off,_,_,rfl,hc⟩
theorem Eff.df8{o:Oper}{R:Env->List Item->Prop}(hd:o.dst=none)
  (h:∀a w,Ag N a L->Sep κ w I->∃v w' I',(execOp a.eval o).run P w = .ok (.value v) w'/\R L I'/\Sep κ w' I'):Eff P κ N Q o L I R:=λa w ha hs=>by
 obtain ⟨v,w',I',hr,hR,M⟩:=h a w ha hs
 simp only [Oper.wp,hr,Oper.upon,hd]
 exact ⟨_,_,hR,ha,M⟩
theorem j8.gg8{y:Operand}{ag:Bool}{m:Int}(M:P.underlying T=some (.slice E))(hE:tyF P E=some (sz,ag,by',z))(hx:er L x=some (.slice ad n c))(hy:er L y=some (e7 m))(hm:m=(h:Int))
  (hh:h<=c):j8 P κ N ⟨d,.slice T x none (some y) none,ty,ps,af,gd⟩ L J (.slice ad h c):=λa w ha hs=>by
 subst hm
 have:=j8.slice (P:=P) (κ:=κ) (N:=N) (L:=L) (J:=J) (d:=d) (ty:=ty) (ps:=ps) (af:=af) (gd:=gd) (l:=0) (h:=h) M hE hx (.inl ⟨rfl,rfl⟩) (.inr ⟨y,rfl,hy⟩) (Mq _) hh a w ha hs
 rw [this]
 have e:(if c=0 then ad else ad.map (λx=>x.add<|0*sz))=ad:=by
  split
  ·rfl
  cases ad<;>simp [Addr.add]
 rw [e]
 rfl
theorem Sl.dz8{l m:Nat}(hv:Sl κ I (.slice ad n c) xs)(hl:l<=xs.length)(M:m=xs.length - l):Sl κ I (.slice (N9 ad c l (Enc.sz α)) m (c - l)) (xs.drop l):=by
 have h:=Sl.drop hv hl
 rw [Fx,←M] at h
 exact h
theorem vc.cap(h:vc e (.slice ad n c) xs∈I):∀w,Sep κ w I->xs.length<=c:=λw hs=>by
 obtain ⟨_,_,h0,_,M,_⟩:=(Sl.vec (κ:=κ) h) w hs
 cases h0
 exact M
theorem j8.caps(M:P.underlying T=some (.slice E))(hx:er L x=some (.slice ad n c)) :
  j8 P κ N ⟨d,.call {callee:= .builtin .cap,args:= #[x],argTypes:= #[T]},ty,ps,af,gd⟩ L J (e7 c):=
 λa w ha hs=>by
  simp [execOp,resolve,invoke,builtin,ha.eval hx,Builtin.cap_,run_underlying M,goInt]
def ab8(κ:Ctx)(I:List Item)(b:Nat)(cs:List Value)(T:TypeId):Prop:=∀w,Sep κ w I->w.heap[b]? = some (.cells cs.toArray T (0,0))
theorem ab8.fit{T:TypeId}(h:ab8 κ I b cs T)(M:Fit κ J I):ab8 κ J b cs T:=λw s=>h w (M w s)
theorem ab8.of{T:TypeId}(h:e8 b cs T∈I):ab8 κ I b cs T:=λw s=>(s.ok _ h).1
theorem j8.fo2{o:Nat}{v:Value}(hT:tyF P T=some (sz,false,by',z))(M:er L x=some (.pointer (some ⟨b,o,none⟩)))(hb:ab8 κ J b cs E)(hc:cs[o]? = some v) :
  j8 P κ N ⟨d,.load T x,ty,ps,af,gd⟩ L J v:=
 λa w ha hs=>by
  have:=am6 (w:=w) (hb w hs) o
  simp [execOp,ha.eval M,Instr.loadAt,Instr.sureAddr,aa2 hT<|this.trans hc]
def dp0(P:Program)(κ:Ctx)(I:List Item)(g:FuncId)(caps:List Value)(p:α->Bool):Prop:=V5 P g=true/\∀(x:α) (J:List Item),Fit κ J I->eu P κ g ([]++[.agg (Enc.enc x).toArray]++caps) J λr J'=>r = .bool (p x)/\J=J'
theorem dp0.fit{g:FuncId}{caps:List Value}{p:α->Bool}(h:dp0 P κ I g caps p)(hf:Fit κ J I):dp0 P κ J g caps p:=⟨h.1,λx K M=>h.2 x K (M.trans hf)⟩
end
end Go.Sl
namespace Go.Sl
section
variable {P:Program}{κ:Ctx}{N:Frm}{Q:Exit->Act->World->Prop}{L:Env}{I:List Item}
theorem bj1{c rest:Code}{a:Act}{w:World}(l:Nat){σ:Type}(R:σ->Act->World->Prop)(μ:σ->Nat)(hf:findLabel c l=some rest)
  (first:c.wp P (Exit.jump l (λa w=>∃s,R s a w) Q) a w)
  (pass:∀s a w,R s a w->rest.wp P (Exit.jump l (λa' w'=>∃s',R s' a' w'/\μ s'<μ s) Q) a w):(Code.scope c).wp P Q a w:=by
 intro b k cs
 have hg:gotoIn l (.inScope c::k)=some (.code rest :: .inScope c::k):=by simp [gotoIn,hf]
 have ae:∀n s a w,μ s=n->R s a w->∃e a' w',Q e a' w'/\Arrives P (lone (b.at a<|.code rest :: .inScope c::k) cs w) b k cs e a' w':=by
  intro n
  induction n using Nat.strongRecOn with
  |_ n ih=>
   intro s a w hn hR
   obtain ⟨e,a₁,w₁,hq,M⟩:=pass s a w hR b (.inScope c::k) cs
   cases e with
   |normal=>exact ⟨.normal,a₁,w₁,hq,Steps.trans M<|.one step_inScope⟩
   |exit id=>exact ⟨.exit id,a₁,w₁,hq,λk' hk=>M k'<|by simp [exitTo,hk]⟩
   |goto l'=>
    obtain ⟨rfl,s',ad,hlt⟩:=hq
    obtain ⟨e₂,a₂,w₂,ab,aa⟩:=ih _ (by omega) s' a₁ w₁ rfl ad
    exact ⟨e₂,a₂,w₂,ab,.of_steps (M _ hg) aa⟩
   |ret=>exact ⟨_,a₁,w₁,hq,M⟩
   |panic ch=>exact ⟨_,a₁,w₁,hq,M⟩
   |outgrown=>exact ⟨_,a₁,w₁,hq,M⟩
 obtain ⟨e,a₁,w₁,hq,M⟩:=first b (.inScope c::k) cs
 cases e with
 |normal=>exact ⟨.normal,a₁,w₁,hq,.head step_scope<|Steps.trans M<|.one step_inScope⟩
 |exit id=>exact ⟨.exit id,a₁,w₁,hq,λk' hk=> .head step_scope<|M k'<|by simp [exitTo,hk]⟩
 |goto l'=>
  obtain ⟨rfl,s,hR⟩:=hq
  obtain ⟨e₂,a₂,w₂,ab,aa⟩:=ae _ s a₁ w₁ rfl hR
  exact ⟨e₂,a₂,w₂,ab,.of_steps (.head step_scope<|M _ hg) aa⟩
 |ret=>exact ⟨_,a₁,w₁,hq,.of_steps (.one step_scope) M⟩
 |panic ch=>exact ⟨_,a₁,w₁,hq,.of_steps (.one step_scope) M⟩
 |outgrown=>exact ⟨_,a₁,w₁,hq,.of_steps (.one step_scope) M⟩
theorem V.dy2{l:Nat}{K:Act->World->Prop}(h:V κ N Q .ret L I):V κ N (Exit.jump l K Q) .ret L I:=h
end
end Go.Sl
namespace Go.Sl
section
variable {P:Program}{κ:Ctx}{N:Frm}{Q:Exit->Act->World->Prop}{L:Env}{I:List Item}
theorem W.fx0{c rest:Code}{l:Nat}(hf:findLabel c l=some rest)(h:W P κ N c (Exit.jump l (λ_ _=>∃s:Unit,False) Q) L I):W P κ N (.scope c) Q L I:=λa w M hs=>
 bj1 l (fun (_:Unit) _ _=>False) (λ_=>0) hf (h a w M hs) λ_ _ _ hR=>hR.elim
theorem W.label{l:Nat}(h:V κ N Q .normal L I):W P κ N (.label l) Q L I:=λa w M hs=>wp_label (h a w M hs)
end
end Go.Sl
