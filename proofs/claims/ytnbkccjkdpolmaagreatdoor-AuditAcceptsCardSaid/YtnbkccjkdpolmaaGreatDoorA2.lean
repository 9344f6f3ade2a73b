/- A part of the proofs of statements of this seat: contracts of functions, and the plain laws that they lean on. No conditions. -/
import Derived.Test.YtnbkccjkdpolmaaGreatDoorA1
import Derived.Laws.StructEq
import Derived.ChangeKeysEq
import Derived.ScopeJumps
set_option linter.unusedVariables false
set_option linter.unusedSimpArgs false
set_option linter.unusedSectionVars false
namespace Go.Sl
variable{E T b by' d dd fuel i n stop sz:Nat}{M aa ab ad ae ah ai aj c0 c1 c2 c3 c4 c5 c6 e0 e1 e2 e3 e4 e5 e6 v v0 v1 v2 v3 v4 v5 v6 v7 v8 v9:Value}{x y:Operand}{cs z:List Value}{U:TypeId}{m:Int}{I' I1:List Item}{ag:Bool}{L1:Env}
section
variable {P:Program}{κ:Ctx}{N:Frm}{Q:Exit->Act->World->Prop}{L:Env}{I J:List Item}{ops:Array Oper}{o:Oper}{rest:List Oper}{q:Op}{ty:TypeId}{ps:String}{af:Array Edge}{gd:Option (Nat×Bool)}
theorem Gr(hr:Runs P κ N ⟨some d,q,ty,ps,af,none⟩ L I v)(h:G P κ N ops Q rest ((d,v)::L) I)(M:Nat.blt d N.n=true:=by exact rfl):G P κ N ops Q (⟨some d,q,ty,ps,af,none⟩::rest) L I:=G.read (Wanted.plain rfl) rfl M hr h
theorem Gm(hx:er L x=some v)(h:G P κ N ops Q rest ((d,v)::L) I)(M:Nat.blt d N.n=true:=by exact rfl):G P κ N ops Q (⟨some d,.move x,ty,ps,af,none⟩::rest) L I:=Gr (Runs.move hx) h M
theorem Ga(hx:er L x=some v)(h:G P κ N ops Q rest ((d,v)::L) I)(M:Nat.blt d N.n=true:=by exact rfl):G P κ N ops Q (⟨some d,.assign x,ty,ps,af,none⟩::rest) L I:=Gr (Runs.assign hx) h M
theorem e9(hr:Runs P κ N ⟨some d,q,ty,ps,af,gd⟩ L I v)(h:G P κ N ops Q rest ((d,v)::L) I)(M:Wanted N ops ⟨some d,q,ty,ps,af,gd⟩ L:=by exact Wanted.on rfl rfl rfl)(hN:Nat.blt d N.n=true:=by exact rfl):G P κ N ops Q (⟨some d,q,ty,ps,af,gd⟩::rest) L I:=G.read M rfl hN hr h
theorem ee(h:G P κ N ops Q rest ((d,undef)::L) I)(M:Unwanted N ops ⟨some d,q,ty,ps,af,gd⟩ L:=by exact Unwanted.und rfl rfl rfl)(hN:Nat.blt d N.n=true:=by exact rfl):G P κ N ops Q (⟨some d,q,ty,ps,af,gd⟩::rest) L I:=G.pass M rfl hN h
theorem eb(h:G P κ N ops Q rest ((d,undef)::L) I)(M:Unwanted N ops ⟨some d,q,ty,ps,af,gd⟩ L:=by exact Unwanted.off rfl rfl rfl)(hN:Nat.blt d N.n=true:=by exact rfl):G P κ N ops Q (⟨some d,q,ty,ps,af,gd⟩::rest) L I:=G.pass M rfl hN h
theorem V.nx{σ:Type}{Lv:σ->Env}{Iv:σ->List Item}{p:σ->Prop}{μ:σ->Nat}{s:σ}(M:σ)(hp:p M)(hlt:μ M<μ s:=by (try dsimp only);omega)
  (hL:Sub L (Lv M):=by repeat (first|exact Sub.nil|refine Sub.cons rfl ?_|refine Sub.cons lookO ?_|refine Sub.cons (lookV rfl<|by first|rfl|simp) ?_)) (hI:Fit κ I (Iv M):=by (try dsimp only);exact Fit.s) :
  V κ N (Exit.then (LoopK κ N Lv Iv p μ s) Q) .normal L I:=V.next M hp hlt hL hI
theorem V.mi{σ:Type}{Lv:σ->Env}{Iv:σ->List Item}{p:σ->Prop}(s:σ)(M:p s)
  (hL:Sub L (Lv s):=by repeat (first|exact Sub.nil|refine Sub.cons rfl ?_|refine Sub.cons lookO ?_|refine Sub.cons (lookV rfl<|by first|rfl|simp) ?_)) (hI:Fit κ I (Iv s):=by (try dsimp only);exact Fit.s) :
  V κ N (Exit.then (MidK κ N Lv Iv p) Q) .normal L I:=V.mid s M hL hI
theorem Dr{M:Array Bool}(i:Nat)(hi:ops[i]? = some ⟨some d,q,ty,ps,af,gd⟩)(aa:Runs P κ N ⟨some d,q,ty,ps,af,gd⟩ L J v)(h:D P κ N ops Q J stop fuel (M.setIfInBounds i true) ((d,v)::L) I)(hw:Wanted N ops ⟨some d,q,ty,ps,af,gd⟩ L:=by exact Wanted.plain rfl)
  (hN:Nat.blt d N.n=true:=by exact rfl) (ae:Region.noSelect ops=true:=by kernel_rfl) (hf:Region.free .any ops M i=true:=by kernel_rfl)
  (hr:(Region.ready .any ops M).contains i=true:=by kernel_rfl) (ab:Nat.beq i stop=false:=by exact rfl) (ad:waitsFor .any ops stop i=true:=by kernel_rfl)
  (hQ:∀c a u w,Q (.panic c) (a.put (some d) u) w->Q (.panic c) a w:=by exact λ_ _ _ _ h=>h) (hJ:Fit κ I J:=by first|((repeat (first|exact Fit.refl _|apply Fit.tail|exact Fit.appR _ _|apply Fit.appL));done)|(refine Fit.of_sublist ?_;(repeat (first|exact List.Sublist.refl _|apply List.Sublist.cons_cons|apply List.Sublist.cons|exact List.sublist_append_right _ _));done)|(refine Fit.sp ?_;(repeat (first|exact Sp.refl _|refine Sp.pick (by repeat (first|exact Pick.head _ _|apply Pick.tail|apply Pick.app)) ?_|apply Sp.skip|exact Sp.appR _ _));done)):D P κ N ops Q J stop (fuel+1) M L I:=D.read i hi ae hf hr ab ad hQ hw rfl hN hJ aa h
theorem Dro{M:Array Bool}(i:Nat)(hi:ops[i]? = some ⟨some d,q,ty,ps,af,gd⟩)(aa:Runs P κ N ⟨some d,q,ty,ps,af,gd⟩ L J v)(h:D P κ N ops Q J stop fuel (M.setIfInBounds i true) ((d,v)::L) I)(hw:Wanted N ops ⟨some d,q,ty,ps,af,gd⟩ L:=by exact Wanted.on rfl rfl rfl)
  (hN:Nat.blt d N.n=true:=by exact rfl) (ae:Region.noSelect ops=true:=by kernel_rfl) (hf:Region.free .any ops M i=true:=by kernel_rfl)
  (hr:(Region.ready .any ops M).contains i=true:=by kernel_rfl) (ab:Nat.beq i stop=false:=by exact rfl) (ad:waitsFor .any ops stop i=true:=by kernel_rfl)
  (hQ:∀c a u w,Q (.panic c) (a.put (some d) u) w->Q (.panic c) a w:=by exact λ_ _ _ _ h=>h) (hJ:Fit κ I J:=by first|((repeat (first|exact Fit.refl _|apply Fit.tail|exact Fit.appR _ _|apply Fit.appL));done)|(refine Fit.of_sublist ?_;(repeat (first|exact List.Sublist.refl _|apply List.Sublist.cons_cons|apply List.Sublist.cons|exact List.sublist_append_right _ _));done)|(refine Fit.sp ?_;(repeat (first|exact Sp.refl _|refine Sp.pick (by repeat (first|exact Pick.head _ _|apply Pick.tail|apply Pick.app)) ?_|apply Sp.skip|exact Sp.appR _ _));done)):D P κ N ops Q J stop (fuel+1) M L I:=D.read i hi ae hf hr ab ad hQ hw rfl hN hJ aa h
theorem Dpu{M:Array Bool}(i:Nat)(hi:ops[i]? = some ⟨some d,q,ty,ps,af,gd⟩)(h:D P κ N ops Q J stop fuel (M.setIfInBounds i true) ((d,undef)::L) I)(hw:Unwanted N ops ⟨some d,q,ty,ps,af,gd⟩ L:=by exact Unwanted.und rfl rfl rfl)
  (hN:Nat.blt d N.n=true:=by exact rfl) (ad:Region.noSelect ops=true:=by kernel_rfl) (hf:Region.free .any ops M i=true:=by kernel_rfl)
  (hr:(Region.ready .any ops M).contains i=true:=by kernel_rfl) (aa:Nat.beq i stop=false:=by exact rfl) (ab:waitsFor .any ops stop i=true:=by kernel_rfl)
  (hQ:∀c a u w,Q (.panic c) (a.put (some d) u) w->Q (.panic c) a w:=by exact λ_ _ _ _ h=>h) (hJ:Fit κ I J:=by first|((repeat (first|exact Fit.refl _|apply Fit.tail|exact Fit.appR _ _|apply Fit.appL));done)|(refine Fit.of_sublist ?_;(repeat (first|exact List.Sublist.refl _|apply List.Sublist.cons_cons|apply List.Sublist.cons|exact List.sublist_append_right _ _));done)|(refine Fit.sp ?_;(repeat (first|exact Sp.refl _|refine Sp.pick (by repeat (first|exact Pick.head _ _|apply Pick.tail|apply Pick.app)) ?_|apply Sp.skip|exact Sp.appR _ _));done)):D P κ N ops Q J stop (fuel+1) M L I:=D.pass i hi ad hf hr aa ab hQ hw rfl hN hJ h
theorem Dpo{M:Array Bool}(i:Nat)(hi:ops[i]? = some ⟨some d,q,ty,ps,af,gd⟩)(h:D P κ N ops Q J stop fuel (M.setIfInBounds i true) ((d,undef)::L) I)(hw:Unwanted N ops ⟨some d,q,ty,ps,af,gd⟩ L:=by exact Unwanted.off rfl rfl rfl)
  (hN:Nat.blt d N.n=true:=by exact rfl) (ad:Region.noSelect ops=true:=by kernel_rfl) (hf:Region.free .any ops M i=true:=by kernel_rfl)
  (hr:(Region.ready .any ops M).contains i=true:=by kernel_rfl) (aa:Nat.beq i stop=false:=by exact rfl) (ab:waitsFor .any ops stop i=true:=by kernel_rfl)
  (hQ:∀c a u w,Q (.panic c) (a.put (some d) u) w->Q (.panic c) a w:=by exact λ_ _ _ _ h=>h) (hJ:Fit κ I J:=by first|((repeat (first|exact Fit.refl _|apply Fit.tail|exact Fit.appR _ _|apply Fit.appL));done)|(refine Fit.of_sublist ?_;(repeat (first|exact List.Sublist.refl _|apply List.Sublist.cons_cons|apply List.Sublist.cons|exact List.sublist_append_right _ _));done)|(refine Fit.sp ?_;(repeat (first|exact Sp.refl _|refine Sp.pick (by repeat (first|exact Pick.head _ _|apply Pick.tail|apply Pick.app)) ?_|apply Sp.skip|exact Sp.appR _ _));done)):D P κ N ops Q J stop (fuel+1) M L I:=D.pass i hi ad hf hr aa ab hQ hw rfl hN hJ h
theorem Ds1{M:Array Bool}(i:Nat)(h:Step P κ N ops Q J stop fuel M L I i)(hr:Region.ready .any ops M=[i]:=by kernel_rfl)(aa:([i]==[stop])=false:=by exact rfl):D P κ N ops Q J stop (fuel+1) M L I:=D.step hr rfl aa (all1 h)
theorem Se{M:Array Bool}{R:Env->List Item->Prop}(hi:ops[i]? = some o)(he:Eff P κ N Q o L I R)(h:∀L' I',R L' I'->Fit κ I' J/\D P κ N ops Q J stop fuel (M.setIfInBounds i true) L' I')(hw:Wanted N ops o L:=by first|exact Wanted.plain rfl|exact Wanted.on rfl rfl rfl):Step P κ N ops Q J stop fuel M L I i:=Step.eff hi hw he h
theorem Sr{M:Array Bool}(hi:ops[i]? = some ⟨some d,q,ty,ps,af,gd⟩)(hr:Runs P κ N ⟨some d,q,ty,ps,af,gd⟩ L I v)(hf:Fit κ I J)(h:D P κ N ops Q J stop fuel (M.setIfInBounds i true) ((d,v)::L) I)(hw:Wanted N ops ⟨some d,q,ty,ps,af,gd⟩ L:=by first|exact Wanted.plain rfl|exact Wanted.on rfl rfl rfl)(hN:Nat.blt d N.n=true:=by exact rfl):Step P κ N ops Q J stop fuel M L I i:=Step.read hi hw rfl hN hr hf h
theorem Ae{M:Array Bool}(i:Nat){R:Env->List Item->Prop}(hi:ops[i]? = some o)(he:Eff P κ N Q o L I R)(h:∀L' I',R L' I'->A P κ N ops Q fuel (M.setIfInBounds i true) L' I')(hw:Wanted N ops o L:=by first|exact Wanted.plain rfl|exact Wanted.on rfl rfl rfl)(hr:Region.ready .any ops M=[i]:=by kernel_rfl):A P κ N ops Q (fuel+1) M L I:=A.eff hr hi hw he h
theorem Gf{k off o:Nat}(h:fldF P T k=some off)(hx:er L x=some (.pointer (some ⟨b,o,none⟩)))(M:G P κ N ops Q rest ((d,.pointer (some ⟨b,o+off,none⟩))::L) I)(hN:Nat.blt d N.n=true:=by exact rfl):G P κ N ops Q (⟨some d,.fieldAddr T x k,ty,ps,af,none⟩::rest) L I:=Gr (Runs.fieldAddr h hx) M hN
theorem Gl{o:Nat}(hT:tyF P T=some (sz,false,by',z))(h:G P κ N ops Q rest ((d,v)::L) I)(hx:er L x=some (.pointer (some ⟨b,o,none⟩)):=by exact rfl)
  (hb:e8 b cs E∈I:=by repeat (first|exact List.mem_cons_self|apply List.mem_cons_of_mem)) (M:cs[o]? = some v:=by exact rfl) (hN:Nat.blt d N.n=true:=by exact rfl):G P κ N ops Q (⟨some d,.load T x,ty,ps,af,none⟩::rest) L I:=Gr (Runs.load hT hx hb M) h hN
theorem Rad{d:Option Tmp}{T:TypeId}{n:Int}(hx:er L x=some (e7 m))(hy:er L y=some (e7 n))(M:InR (m+n):=by unfold InR;omega):Runs P κ N ⟨d,.binOp .add T x y U,ty,ps,af,gd⟩ L J (e7 (m+n)):=Runs.add hx hy M
theorem Rsu{d:Option Tmp}{T:TypeId}{n:Int}(hx:er L x=some (e7 m))(hy:er L y=some (e7 n))(M:InR (m - n):=by unfold InR;omega):Runs P κ N ⟨d,.binOp .sub T x y U,ty,ps,af,gd⟩ L J (e7 (m - n)):=Runs.sub hx hy M
theorem mm{x:Item}(h:x∈I:=by repeat (first|exact List.mem_cons_self|apply List.mem_cons_of_mem)):x∈I:=h
theorem am{x y:Item}(h:At I x y I':=by repeat (first|exact At.head _ _ _|apply At.tail)):At I x y I':=h
theorem f1(h:Fit κ I J:=by repeat (first|exact Fit.one|apply Fit.tail)):Fit κ I J:=h
theorem om{p:Prop}(h:p:=by omega):p:=h
theorem oo{p:Prop}(h:p:=by first|omega|(simp only [List.length_set];omega)):p:=h
theorem Gl2{o:Nat}(hT:tyF P T=some (sz,true,by',z))(h:G P κ N ops Q rest ((d,.agg #[M,v1])::L) I)(hx:er L x=some (.pointer (some ⟨b,o,none⟩)):=by exact rfl)
  (hb:e8 b cs E∈I:=by repeat (first|exact List.mem_cons_self|apply List.mem_cons_of_mem)) (hc:(cs.drop o).take sz=[M,v1]:=by exact rfl) (hl:[M,v1].length=sz:=by exact rfl) (hN:Nat.blt d N.n=true:=by exact rfl):G P κ N ops Q (⟨some d,.load T x,ty,ps,af,none⟩::rest) L I:=Gr (Runs.loads hT hx hb hc hl) h hN
theorem Gl3{o:Nat}(hT:tyF P T=some (sz,true,by',z))(h:G P κ N ops Q rest ((d,.agg #[v0,v1,M])::L) I)(hx:er L x=some (.pointer (some ⟨b,o,none⟩)):=by exact rfl)
  (hb:e8 b cs E∈I:=by repeat (first|exact List.mem_cons_self|apply List.mem_cons_of_mem)) (hc:(cs.drop o).take sz=[v0,v1,M]:=by exact rfl) (hl:[v0,v1,M].length=sz:=by exact rfl) (hN:Nat.blt d N.n=true:=by exact rfl):G P κ N ops Q (⟨some d,.load T x,ty,ps,af,none⟩::rest) L I:=Gr (Runs.loads hT hx hb hc hl) h hN
theorem Gl4{o:Nat}(hT:tyF P T=some (sz,true,by',z))(h:G P κ N ops Q rest ((d,.agg #[v0,v1,M,v3])::L) I)(hx:er L x=some (.pointer (some ⟨b,o,none⟩)):=by exact rfl)
  (hb:e8 b cs E∈I:=by repeat (first|exact List.mem_cons_self|apply List.mem_cons_of_mem)) (hc:(cs.drop o).take sz=[v0,v1,M,v3]:=by exact rfl) (hl:[v0,v1,M,v3].length=sz:=by exact rfl) (hN:Nat.blt d N.n=true:=by exact rfl):G P κ N ops Q (⟨some d,.load T x,ty,ps,af,none⟩::rest) L I:=Gr (Runs.loads hT hx hb hc hl) h hN
theorem Gl7{o:Nat}(hT:tyF P T=some (sz,true,by',z))(h:G P κ N ops Q rest ((d,.agg #[v0,v1,v2,v3,v4,v5,M])::L) I)(hx:er L x=some (.pointer (some ⟨b,o,none⟩)):=by exact rfl)
  (hb:e8 b cs E∈I:=by repeat (first|exact List.mem_cons_self|apply List.mem_cons_of_mem)) (hc:(cs.drop o).take sz=[v0,v1,v2,v3,v4,v5,M]:=by exact rfl) (hl:[v0,v1,v2,v3,v4,v5,M].length=sz:=by exact rfl) (hN:Nat.blt d N.n=true:=by exact rfl):G P κ N ops Q (⟨some d,.load T x,ty,ps,af,none⟩::rest) L I:=Gr (Runs.loads hT hx hb hc hl) h hN
theorem Es2_2{o E:Nat}{c0 c1 e0 e1:Value}{I':List Item}(hT:tyF P T=some (sz,ag,by',z))(hx:er L x=some (.pointer (some ⟨b,o,none⟩)):=by exact rfl)(hy:er L y=some v:=by exact rfl)
  (hv:cellsOf v=[M,v1]:=by exact rfl) (hl:[M,v1].length=sz:=by exact rfl) (h1:AllOne [M,v1]:=by repeat (first|exact AllOne.nil|refine AllOne.cons rfl ?_)) (ab:At I (e8 b [c0,c1] E) (e8 b [e0,e1] E) I':=by repeat (first|exact At.head _ _ _|apply At.tail)) (hr:o+[M,v1].length<=[c0,c1].length:=by exact Nat.le_of_ble_eq_true rfl) (aa:[c0,c1].take o++[M,v1]++[c0,c1].drop (o+[M,v1].length)=[e0,e1]:=by exact rfl) :
  Eff P κ N Q ⟨none,.store T x y,ty,ps,af,gd⟩ L I λL' I''=>L'=L/\I''=I':=Eff.st hT hx hy hv hl h1 ab hr aa
theorem Es6_6{o E:Nat}{c0 c1 c2 c3 c4 c5 e0 e1 e2 e3 e4 e5:Value}{I':List Item}(hT:tyF P T=some (sz,ag,by',z))(hx:er L x=some (.pointer (some ⟨b,o,none⟩)):=by exact rfl)(hy:er L y=some v:=by exact rfl)
  (hv:cellsOf v=[M,v1,v2,v3,v4,v5]:=by exact rfl) (hl:[M,v1,v2,v3,v4,v5].length=sz:=by exact rfl) (h1:AllOne [M,v1,v2,v3,v4,v5]:=by repeat (first|exact AllOne.nil|refine AllOne.cons rfl ?_)) (aa:At I (e8 b [c0,c1,c2,c3,c4,c5] E) (e8 b [e0,e1,e2,e3,e4,e5] E) I':=by repeat (first|exact At.head _ _ _|apply At.tail)) (hr:o+[M,v1,v2,v3,v4,v5].length<=[c0,c1,c2,c3,c4,c5].length:=by exact Nat.le_of_ble_eq_true rfl) (ab:[c0,c1,c2,c3,c4,c5].take o++[M,v1,v2,v3,v4,v5]++[c0,c1,c2,c3,c4,c5].drop (o+[M,v1,v2,v3,v4,v5].length)=[e0,e1,e2,e3,e4,e5]:=by exact rfl) :
  Eff P κ N Q ⟨none,.store T x y,ty,ps,af,gd⟩ L I λL' I''=>L'=L/\I''=I':=Eff.st hT hx hy hv hl h1 aa hr ab
theorem Es2_1{o E:Nat}{c0 c1 e0 e1:Value}{I':List Item}(hT:tyF P T=some (sz,ag,by',z))(hx:er L x=some (.pointer (some ⟨b,o,none⟩)):=by exact rfl)(hy:er L y=some v:=by exact rfl)
  (hv:cellsOf v=[M]:=by exact rfl) (hl:[M].length=sz:=by exact rfl) (h1:AllOne [M]:=by repeat (first|exact AllOne.nil|refine AllOne.cons rfl ?_)) (ab:At I (e8 b [c0,c1] E) (e8 b [e0,e1] E) I':=by repeat (first|exact At.head _ _ _|apply At.tail)) (hr:o+[M].length<=[c0,c1].length:=by exact Nat.le_of_ble_eq_true rfl) (aa:[c0,c1].take o++[M]++[c0,c1].drop (o+[M].length)=[e0,e1]:=by exact rfl) :
  Eff P κ N Q ⟨none,.store T x y,ty,ps,af,gd⟩ L I λL' I''=>L'=L/\I''=I':=Eff.st hT hx hy hv hl h1 ab hr aa
theorem Es7_1{o E:Nat}{c0 c1 c2 c3 c4 c5 c6 e0 e1 e2 e3 e4 e5 e6:Value}{I':List Item}(hT:tyF P T=some (sz,ag,by',z))(hx:er L x=some (.pointer (some ⟨b,o,none⟩)):=by exact rfl)(hy:er L y=some v:=by exact rfl)
  (hv:cellsOf v=[M]:=by exact rfl) (hl:[M].length=sz:=by exact rfl) (h1:AllOne [M]:=by repeat (first|exact AllOne.nil|refine AllOne.cons rfl ?_)) (aa:At I (e8 b [c0,c1,c2,c3,c4,c5,c6] E) (e8 b [e0,e1,e2,e3,e4,e5,e6] E) I':=by repeat (first|exact At.head _ _ _|apply At.tail)) (hr:o+[M].length<=[c0,c1,c2,c3,c4,c5,c6].length:=by exact Nat.le_of_ble_eq_true rfl) (ab:[c0,c1,c2,c3,c4,c5,c6].take o++[M]++[c0,c1,c2,c3,c4,c5,c6].drop (o+[M].length)=[e0,e1,e2,e3,e4,e5,e6]:=by exact rfl) :
  Eff P κ N Q ⟨none,.store T x y,ty,ps,af,gd⟩ L I λL' I''=>L'=L/\I''=I':=Eff.st hT hx hy hv hl h1 aa hr ab
theorem Es5_5{o E:Nat}{c0 c1 c2 c3 c4 e0 e1 e2 e3 e4:Value}{I':List Item}(hT:tyF P T=some (sz,ag,by',z))(hx:er L x=some (.pointer (some ⟨b,o,none⟩)):=by exact rfl)(hy:er L y=some v:=by exact rfl)
  (hv:cellsOf v=[M,v1,v2,v3,v4]:=by exact rfl) (hl:[M,v1,v2,v3,v4].length=sz:=by exact rfl) (h1:AllOne [M,v1,v2,v3,v4]:=by repeat (first|exact AllOne.nil|refine AllOne.cons rfl ?_)) (aa:At I (e8 b [c0,c1,c2,c3,c4] E) (e8 b [e0,e1,e2,e3,e4] E) I':=by repeat (first|exact At.head _ _ _|apply At.tail)) (hr:o+[M,v1,v2,v3,v4].length<=[c0,c1,c2,c3,c4].length:=by exact Nat.le_of_ble_eq_true rfl) (ab:[c0,c1,c2,c3,c4].take o++[M,v1,v2,v3,v4]++[c0,c1,c2,c3,c4].drop (o+[M,v1,v2,v3,v4].length)=[e0,e1,e2,e3,e4]:=by exact rfl) :
  Eff P κ N Q ⟨none,.store T x y,ty,ps,af,gd⟩ L I λL' I''=>L'=L/\I''=I':=Eff.st hT hx hy hv hl h1 aa hr ab
theorem Es7_7{o E:Nat}{c0 c1 c2 c3 c4 c5 c6 e0 e1 e2 e3 e4 e5 e6:Value}{I':List Item}(hT:tyF P T=some (sz,ag,by',z))(hx:er L x=some (.pointer (some ⟨b,o,none⟩)):=by exact rfl)(hy:er L y=some v:=by exact rfl)
  (hv:cellsOf v=[v0,v1,v2,v3,v4,v5,M]:=by exact rfl) (hl:[v0,v1,v2,v3,v4,v5,M].length=sz:=by exact rfl) (h1:AllOne [v0,v1,v2,v3,v4,v5,M]:=by repeat (first|exact AllOne.nil|refine AllOne.cons rfl ?_)) (aa:At I (e8 b [c0,c1,c2,c3,c4,c5,c6] E) (e8 b [e0,e1,e2,e3,e4,e5,e6] E) I':=by repeat (first|exact At.head _ _ _|apply At.tail)) (hr:o+[v0,v1,v2,v3,v4,v5,M].length<=[c0,c1,c2,c3,c4,c5,c6].length:=by exact Nat.le_of_ble_eq_true rfl) (ab:[c0,c1,c2,c3,c4,c5,c6].take o++[v0,v1,v2,v3,v4,v5,M]++[c0,c1,c2,c3,c4,c5,c6].drop (o+[v0,v1,v2,v3,v4,v5,M].length)=[e0,e1,e2,e3,e4,e5,e6]:=by exact rfl) :
  Eff P κ N Q ⟨none,.store T x y,ty,ps,af,gd⟩ L I λL' I''=>L'=L/\I''=I':=Eff.st hT hx hy hv hl h1 aa hr ab
theorem Es3_3{o E:Nat}{c0 c1 c2 e0 e1 e2:Value}{I':List Item}(hT:tyF P T=some (sz,ag,by',z))(hx:er L x=some (.pointer (some ⟨b,o,none⟩)):=by exact rfl)(hy:er L y=some v:=by exact rfl)
  (hv:cellsOf v=[v0,v1,M]:=by exact rfl) (hl:[v0,v1,M].length=sz:=by exact rfl) (h1:AllOne [v0,v1,M]:=by repeat (first|exact AllOne.nil|refine AllOne.cons rfl ?_)) (ab:At I (e8 b [c0,c1,c2] E) (e8 b [e0,e1,e2] E) I':=by repeat (first|exact At.head _ _ _|apply At.tail)) (hr:o+[v0,v1,M].length<=[c0,c1,c2].length:=by exact Nat.le_of_ble_eq_true rfl) (aa:[c0,c1,c2].take o++[v0,v1,M]++[c0,c1,c2].drop (o+[v0,v1,M].length)=[e0,e1,e2]:=by exact rfl) :
  Eff P κ N Q ⟨none,.store T x y,ty,ps,af,gd⟩ L I λL' I''=>L'=L/\I''=I':=Eff.st hT hx hy hv hl h1 ab hr aa
theorem Es6_1{o E:Nat}{c0 c1 c2 c3 c4 c5 e0 e1 e2 e3 e4 e5:Value}{I':List Item}(hT:tyF P T=some (sz,ag,by',z))(hx:er L x=some (.pointer (some ⟨b,o,none⟩)):=by exact rfl)(hy:er L y=some v:=by exact rfl)
  (hv:cellsOf v=[M]:=by exact rfl) (hl:[M].length=sz:=by exact rfl) (h1:AllOne [M]:=by repeat (first|exact AllOne.nil|refine AllOne.cons rfl ?_)) (ab:At I (e8 b [c0,c1,c2,c3,c4,c5] E) (e8 b [e0,e1,e2,e3,e4,e5] E) I':=by repeat (first|exact At.head _ _ _|apply At.tail)) (hr:o+[M].length<=[c0,c1,c2,c3,c4,c5].length:=by exact Nat.le_of_ble_eq_true rfl) (aa:[c0,c1,c2,c3,c4,c5].take o++[M]++[c0,c1,c2,c3,c4,c5].drop (o+[M].length)=[e0,e1,e2,e3,e4,e5]:=by exact rfl) :
  Eff P κ N Q ⟨none,.store T x y,ty,ps,af,gd⟩ L I λL' I''=>L'=L/\I''=I':=Eff.st hT hx hy hv hl h1 ab hr aa
theorem Es4_4{o E:Nat}{c0 c1 c2 c3 e0 e1 e2 e3:Value}{I':List Item}(hT:tyF P T=some (sz,ag,by',z))(hx:er L x=some (.pointer (some ⟨b,o,none⟩)):=by exact rfl)(hy:er L y=some v:=by exact rfl)
  (hv:cellsOf v=[v0,v1,M,v3]:=by exact rfl) (hl:[v0,v1,M,v3].length=sz:=by exact rfl) (h1:AllOne [v0,v1,M,v3]:=by repeat (first|exact AllOne.nil|refine AllOne.cons rfl ?_)) (ab:At I (e8 b [c0,c1,c2,c3] E) (e8 b [e0,e1,e2,e3] E) I':=by repeat (first|exact At.head _ _ _|apply At.tail)) (hr:o+[v0,v1,M,v3].length<=[c0,c1,c2,c3].length:=by exact Nat.le_of_ble_eq_true rfl) (aa:[c0,c1,c2,c3].take o++[v0,v1,M,v3]++[c0,c1,c2,c3].drop (o+[v0,v1,M,v3].length)=[e0,e1,e2,e3]:=by exact rfl) :
  Eff P κ N Q ⟨none,.store T x y,ty,ps,af,gd⟩ L I λL' I''=>L'=L/\I''=I':=Eff.st hT hx hy hv hl h1 ab hr aa
theorem Ge0(he:Eff P κ N Q o L I (λL' I'=>L'=L1/\I'=I1))(h:G P κ N ops Q rest L1 I1)(M:Wanted N ops o L:=by first|exact Wanted.plain rfl|exact Wanted.on rfl rfl rfl):G P κ N ops Q (o::rest) L I:=G.eff M he (by rintro _ _ ⟨rfl,rfl⟩;exact h)
theorem Se0{M:Array Bool}(hi:ops[i]? = some o)(he:Eff P κ N Q o L I (λL' I'=>L'=L1/\I'=I1))(h:D P κ N ops Q J stop fuel (M.setIfInBounds i true) L1 I1)(hw:Wanted N ops o L:=by first|exact Wanted.plain rfl|exact Wanted.on rfl rfl rfl)(hf:Fit κ I1 J:=by first|((repeat (first|exact Fit.refl _|apply Fit.tail|exact Fit.appR _ _|apply Fit.appL));done)|(refine Fit.of_sublist ?_;(repeat (first|exact List.Sublist.refl _|apply List.Sublist.cons_cons|apply List.Sublist.cons|exact List.sublist_append_right _ _));done)|(refine Fit.sp ?_;(repeat (first|exact Sp.refl _|refine Sp.pick (by repeat (first|exact Pick.head _ _|apply Pick.tail|apply Pick.app)) ?_|apply Sp.skip|exact Sp.appR _ _));done)):Step P κ N ops Q J stop fuel M L I i:=Step.eff hi hw he (by rintro _ _ ⟨rfl,rfl⟩;exact ⟨hf,h⟩)
theorem Ge1{τ:Type}{L1:τ->Env}{I1:τ->List Item}(he:Eff P κ N Q o L I (λL' I'=>∃b,L'=L1 b/\I'=I1 b))(h:∀b,G P κ N ops Q rest (L1 b) (I1 b))(M:Wanted N ops o L:=by first|exact Wanted.plain rfl|exact Wanted.on rfl rfl rfl):G P κ N ops Q (o::rest) L I:=G.eff M he (by rintro _ _ ⟨b,rfl,rfl⟩;exact h b)
theorem Se1{M:Array Bool}{τ:Type}{L1:τ->Env}{I1:τ->List Item}(hi:ops[i]? = some o)(he:Eff P κ N Q o L I (λL' I'=>∃b,L'=L1 b/\I'=I1 b))(h:∀b,D P κ N ops Q J stop fuel (M.setIfInBounds i true) (L1 b) (I1 b))(hw:Wanted N ops o L:=by first|exact Wanted.plain rfl|exact Wanted.on rfl rfl rfl)(hf:∀b,Fit κ (I1 b) J:=by intros;first|((repeat (first|exact Fit.refl _|apply Fit.tail|exact Fit.appR _ _|apply Fit.appL));done)|(refine Fit.of_sublist ?_;(repeat (first|exact List.Sublist.refl _|apply List.Sublist.cons_cons|apply List.Sublist.cons|exact List.sublist_append_right _ _));done)|(refine Fit.sp ?_;(repeat (first|exact Sp.refl _|refine Sp.pick (by repeat (first|exact Pick.head _ _|apply Pick.tail|apply Pick.app)) ?_|apply Sp.skip|exact Sp.appR _ _));done)):Step P κ N ops Q J stop fuel M L I i:=Step.eff hi hw he (by rintro _ _ ⟨b,rfl,rfl⟩;exact ⟨hf b,h b⟩)
theorem Ge2{τ M:Type}{L1:τ->M->Env}{I1:τ->M->List Item}(he:Eff P κ N Q o L I (λL' I'=>∃b c,L'=L1 b c/\I'=I1 b c))(h:∀b c,G P κ N ops Q rest (L1 b c) (I1 b c))(hw:Wanted N ops o L:=by first|exact Wanted.plain rfl|exact Wanted.on rfl rfl rfl):G P κ N ops Q (o::rest) L I:=G.eff hw he (by rintro _ _ ⟨b,c,rfl,rfl⟩;exact h b c)
theorem Se2{M:Array Bool}{τ τ1:Type}{L1:τ->τ1->Env}{I1:τ->τ1->List Item}(hi:ops[i]? = some o)(he:Eff P κ N Q o L I (λL' I'=>∃b c,L'=L1 b c/\I'=I1 b c))(h:∀b c,D P κ N ops Q J stop fuel (M.setIfInBounds i true) (L1 b c) (I1 b c))(hw:Wanted N ops o L:=by first|exact Wanted.plain rfl|exact Wanted.on rfl rfl rfl)(hf:∀b c,Fit κ (I1 b c) J:=by intros;first|((repeat (first|exact Fit.refl _|apply Fit.tail|exact Fit.appR _ _|apply Fit.appL));done)|(refine Fit.of_sublist ?_;(repeat (first|exact List.Sublist.refl _|apply List.Sublist.cons_cons|apply List.Sublist.cons|exact List.sublist_append_right _ _));done)|(refine Fit.sp ?_;(repeat (first|exact Sp.refl _|refine Sp.pick (by repeat (first|exact Pick.head _ _|apply Pick.tail|apply Pick.app)) ?_|apply Sp.skip|exact Sp.appR _ _));done)):Step P κ N ops Q J stop fuel M L I i:=Step.eff hi hw he (by rintro _ _ ⟨b,c,rfl,rfl⟩;exact ⟨hf b c,h b c⟩)
theorem Gc0(he:Eff P κ N Q o L I (λL' I'=>∃v J',(v=M/\I1=J')/\L'=(dd,v)::L/\J'=I'))(h:G P κ N ops Q rest ((dd,M)::L) I1)(hw:Wanted N ops o L:=by first|exact Wanted.plain rfl|exact Wanted.on rfl rfl rfl):G P κ N ops Q (o::rest) L I:=G.eff hw he (by rintro _ _ ⟨_,_,⟨rfl,rfl⟩,rfl,rfl⟩;exact h)
theorem Sc0{M:Array Bool}(hi:ops[i]? = some o)(he:Eff P κ N Q o L I (λL' I'=>∃v J',(v=v0/\I1=J')/\L'=(dd,v)::L/\J'=I'))(h:D P κ N ops Q J stop fuel (M.setIfInBounds i true) ((dd,v0)::L) I1)(hw:Wanted N ops o L:=by first|exact Wanted.plain rfl|exact Wanted.on rfl rfl rfl)(hf:Fit κ I1 J:=by first|((repeat (first|exact Fit.refl _|apply Fit.tail|exact Fit.appR _ _|apply Fit.appL));done)|(refine Fit.of_sublist ?_;(repeat (first|exact List.Sublist.refl _|apply List.Sublist.cons_cons|apply List.Sublist.cons|exact List.sublist_append_right _ _));done)|(refine Fit.sp ?_;(repeat (first|exact Sp.refl _|refine Sp.pick (by repeat (first|exact Pick.head _ _|apply Pick.tail|apply Pick.app)) ?_|apply Sp.skip|exact Sp.appR _ _));done)):Step P κ N ops Q J stop fuel M L I i:=Step.eff hi hw he (by rintro _ _ ⟨_,_,⟨rfl,rfl⟩,rfl,rfl⟩;exact ⟨hf,h⟩)
theorem Gc1(he:Eff P κ N Q o L I (λL' I'=>∃v J',(v=M/\J'=I1)/\L'=(dd,v)::L/\J'=I'))(h:G P κ N ops Q rest ((dd,M)::L) I1)(hw:Wanted N ops o L:=by first|exact Wanted.plain rfl|exact Wanted.on rfl rfl rfl):G P κ N ops Q (o::rest) L I:=G.eff hw he (by rintro _ _ ⟨_,_,⟨rfl,rfl⟩,rfl,rfl⟩;exact h)
theorem Gc2{τ τ1:Type}{M:τ->τ1->Value}{I1:τ->τ1->List Item}(he:Eff P κ N Q o L I (λL' I'=>∃v J',(∃b c,v=M b c/\J'=I1 b c)/\L'=(dd,v)::L/\J'=I'))(h:∀b c,G P κ N ops Q rest ((dd,M b c)::L) (I1 b c))(hw:Wanted N ops o L:=by first|exact Wanted.plain rfl|exact Wanted.on rfl rfl rfl):G P κ N ops Q (o::rest) L I:=G.eff hw he (by rintro _ _ ⟨_,_,⟨b,c,rfl,rfl⟩,rfl,rfl⟩;exact h b c)
theorem Sc2{M:Array Bool}{τ τ1:Type}{v0:τ->τ1->Value}{I1:τ->τ1->List Item}(hi:ops[i]? = some o)(he:Eff P κ N Q o L I (λL' I'=>∃v J',(∃b c,v=v0 b c/\J'=I1 b c)/\L'=(dd,v)::L/\J'=I'))(h:∀b c,D P κ N ops Q J stop fuel (M.setIfInBounds i true) ((dd,v0 b c)::L) (I1 b c))(hw:Wanted N ops o L:=by first|exact Wanted.plain rfl|exact Wanted.on rfl rfl rfl)(hf:∀b c,Fit κ (I1 b c) J:=by intros;first|((repeat (first|exact Fit.refl _|apply Fit.tail|exact Fit.appR _ _|apply Fit.appL));done)|(refine Fit.of_sublist ?_;(repeat (first|exact List.Sublist.refl _|apply List.Sublist.cons_cons|apply List.Sublist.cons|exact List.sublist_append_right _ _));done)|(refine Fit.sp ?_;(repeat (first|exact Sp.refl _|refine Sp.pick (by repeat (first|exact Pick.head _ _|apply Pick.tail|apply Pick.app)) ?_|apply Sp.skip|exact Sp.appR _ _));done)):Step P κ N ops Q J stop fuel M L I i:=Step.eff hi hw he (by rintro _ _ ⟨_,_,⟨b,c,rfl,rfl⟩,rfl,rfl⟩;exact ⟨hf b c,h b c⟩)
theorem Dz{M:Array Bool}(h:V κ N Q .normal L I)(hr:Region.ready .any ops M=[]:=by kernel_rfl):D P κ N ops Q J stop fuel M L I:=D.done hr h
theorem Ce0{f:FuncId}{M:Func}{c:Code}{Post:Value->List Item->Prop}(hf:P.funcs[f]? = some M)(hb:M.body=some c)(hN:M.ntmps=n)(h:W P κ ⟨n,[]⟩ c (bodyPost P M (RetR κ Post)) [] I)(hl:Nat.ble 0 n=true:=by exact rfl):eu P κ f [] I Post:=eu.enter hf hb hN hl rfl h
theorem Ce1{f:FuncId}{M:Func}{c:Code}{Post:Value->List Item->Prop}(hf:P.funcs[f]? = some M)(hb:M.body=some c)(hN:M.ntmps=n)(h:W P κ ⟨n,[]⟩ c (bodyPost P M (RetR κ Post)) [(0,v0)] I)(hl:Nat.ble 1 n=true:=by exact rfl):eu P κ f [v0] I Post:=eu.enter hf hb hN hl rfl h
theorem Ce2{f:FuncId}{M:Func}{c:Code}{Post:Value->List Item->Prop}(hf:P.funcs[f]? = some M)(hb:M.body=some c)(hN:M.ntmps=n)(h:W P κ ⟨n,[]⟩ c (bodyPost P M (RetR κ Post)) [(0,v0),(1,v1)] I)(hl:Nat.ble 2 n=true:=by exact rfl):eu P κ f [v0,v1] I Post:=eu.enter hf hb hN hl rfl h
theorem Ce3{f:FuncId}{M:Func}{c:Code}{Post:Value->List Item->Prop}(hf:P.funcs[f]? = some M)(hb:M.body=some c)(hN:M.ntmps=n)(h:W P κ ⟨n,[]⟩ c (bodyPost P M (RetR κ Post)) [(0,v0),(1,v1),(2,v2)] I)(hl:Nat.ble 3 n=true:=by exact rfl):eu P κ f [v0,v1,v2] I Post:=eu.enter hf hb hN hl rfl h
theorem Ce4{f:FuncId}{M:Func}{c:Code}{Post:Value->List Item->Prop}(hf:P.funcs[f]? = some M)(hb:M.body=some c)(hN:M.ntmps=n)(h:W P κ ⟨n,[]⟩ c (bodyPost P M (RetR κ Post)) [(0,v0),(1,v1),(2,v2),(3,v3)] I)(hl:Nat.ble 4 n=true:=by exact rfl):eu P κ f [v0,v1,v2,v3] I Post:=eu.enter hf hb hN hl rfl h
theorem Ce5{f:FuncId}{M:Func}{c:Code}{Post:Value->List Item->Prop}(hf:P.funcs[f]? = some M)(hb:M.body=some c)(hN:M.ntmps=n)(h:W P κ ⟨n,[]⟩ c (bodyPost P M (RetR κ Post)) [(0,v0),(1,v1),(2,v2),(3,v3),(4,v4)] I)(hl:Nat.ble 5 n=true:=by exact rfl):eu P κ f [v0,v1,v2,v3,v4] I Post:=eu.enter hf hb hN hl rfl h
theorem S1(k1:Nat)(h1:look L k1=some M):Sub L [(k1,M)]:= .cons h1 .nil
theorem S2(k1 k2:Nat)(h1:look L k1=some v1)(h2:look L k2=some M):Sub L [(k1,v1),(k2,M)]:= .cons h1 (.cons h2 .nil)
theorem S3(k1 k2 k3:Nat)(h1:look L k1=some v1)(h2:look L k2=some M)(h3:look L k3=some v3):Sub L [(k1,v1),(k2,M),(k3,v3)]:= .cons h1 (.cons h2 (.cons h3 .nil))
theorem S4(k1 k2 k3 k4:Nat)(h1:look L k1=some v1)(h2:look L k2=some M)(h3:look L k3=some v3)(h4:look L k4=some v4):Sub L [(k1,v1),(k2,M),(k3,v3),(k4,v4)]:= .cons h1 (.cons h2 (.cons h3 (.cons h4 .nil)))
theorem S5(k1 k2 k3 k4 k5:Nat)(h1:look L k1=some v1)(h2:look L k2=some M)(h3:look L k3=some v3)(h4:look L k4=some v4)(h5:look L k5=some v5):Sub L [(k1,v1),(k2,M),(k3,v3),(k4,v4),(k5,v5)]:= .cons h1 (.cons h2 (.cons h3 (.cons h4 (.cons h5 .nil))))
theorem S6(k1 k2 k3 k4 k5 k6:Nat)(h1:look L k1=some v1)(h2:look L k2=some v2)(h3:look L k3=some v3)(h4:look L k4=some v4)(h5:look L k5=some v5)(h6:look L k6=some M):Sub L [(k1,v1),(k2,v2),(k3,v3),(k4,v4),(k5,v5),(k6,M)]:= .cons h1 (.cons h2 (.cons h3 (.cons h4 (.cons h5 (.cons h6 .nil)))))
theorem S7(k1 k2 k3 k4 k5 k6 k7:Nat)(h1:look L k1=some v1)(h2:look L k2=some v2)(h3:look L k3=some v3)(h4:look L k4=some v4)(h5:look L k5=some v5)(h6:look L k6=some M)(h7:look L k7=some v7):Sub L [(k1,v1),(k2,v2),(k3,v3),(k4,v4),(k5,v5),(k6,M),(k7,v7)]:= .cons h1 (.cons h2 (.cons h3 (.cons h4 (.cons h5 (.cons h6 (.cons h7 .nil))))))
theorem S8(k1 k2 k3 k4 k5 k6 k7 k8:Nat)(h1:look L k1=some v1)(h2:look L k2=some v2)(h3:look L k3=some v3)(h4:look L k4=some v4)(h5:look L k5=some v5)(h6:look L k6=some M)(h7:look L k7=some v7)(h8:look L k8=some v8):Sub L [(k1,v1),(k2,v2),(k3,v3),(k4,v4),(k5,v5),(k6,M),(k7,v7),(k8,v8)]:= .cons h1 (.cons h2 (.cons h3 (.cons h4 (.cons h5 (.cons h6 (.cons h7 (.cons h8 .nil)))))))
theorem S9(k1 k2 k3 k4 k5 k6 k7 k8 k9:Nat)(h1:look L k1=some v1)(h2:look L k2=some v2)(h3:look L k3=some v3)(h4:look L k4=some v4)(h5:look L k5=some v5)(h6:look L k6=some M)(h7:look L k7=some v7)(h8:look L k8=some v8)(h9:look L k9=some v9):Sub L [(k1,v1),(k2,v2),(k3,v3),(k4,v4),(k5,v5),(k6,M),(k7,v7),(k8,v8),(k9,v9)]:= .cons h1 (.cons h2 (.cons h3 (.cons h4 (.cons h5 (.cons h6 (.cons h7 (.cons h8 (.cons h9 .nil))))))))
theorem S10(k1 k2 k3 k4 k5 k6 k7 k8 k9 k10:Nat)(h1:look L k1=some v1)(h2:look L k2=some v2)(h3:look L k3=some v3)(h4:look L k4=some v4)(h5:look L k5=some v5)(h6:look L k6=some v6)(h7:look L k7=some v7)(h8:look L k8=some v8)(h9:look L k9=some v9)(aa:look L k10=some M):Sub L [(k1,v1),(k2,v2),(k3,v3),(k4,v4),(k5,v5),(k6,v6),(k7,v7),(k8,v8),(k9,v9),(k10,M)]:= .cons h1 (.cons h2 (.cons h3 (.cons h4 (.cons h5 (.cons h6 (.cons h7 (.cons h8 (.cons h9 (.cons aa .nil)))))))))
theorem S11(k1 k2 k3 k4 k5 k6 k7 k8 k9 k10 M:Nat)(h1:look L k1=some v1)(h2:look L k2=some v2)(h3:look L k3=some v3)(h4:look L k4=some v4)(h5:look L k5=some v5)(h6:look L k6=some v6)(h7:look L k7=some v7)(h8:look L k8=some v8)(h9:look L k9=some v9)(ad:look L k10=some aa)(ae:look L M=some ab):Sub L [(k1,v1),(k2,v2),(k3,v3),(k4,v4),(k5,v5),(k6,v6),(k7,v7),(k8,v8),(k9,v9),(k10,aa),(M,ab)]:= .cons h1 (.cons h2 (.cons h3 (.cons h4 (.cons h5 (.cons h6 (.cons h7 (.cons h8 (.cons h9 (.cons ad (.cons ae .nil))))))))))
theorem S12(k1 k2 k3 k4 k5 k6 k7 k8 k9 k10 aa ab:Nat)(h1:look L k1=some v1)(h2:look L k2=some v2)(h3:look L k3=some v3)(h4:look L k4=some v4)(h5:look L k5=some v5)(h6:look L k6=some v6)(h7:look L k7=some v7)(h8:look L k8=some v8)(h9:look L k9=some v9)(ah:look L k10=some ad)(aj:look L aa=some ae)(ai:look L ab=some M):Sub L [(k1,v1),(k2,v2),(k3,v3),(k4,v4),(k5,v5),(k6,v6),(k7,v7),(k8,v8),(k9,v9),(k10,ad),(aa,ae),(ab,M)]:= .cons h1 (.cons h2 (.cons h3 (.cons h4 (.cons h5 (.cons h6 (.cons h7 (.cons h8 (.cons h9 (.cons ah (.cons aj (.cons ai .nil)))))))))))
theorem S13(k1 k2 k3 k4 k5 k6 k7 k8 k9 k10 ah aa ai:Nat)(h1:look L k1=some v1)(h2:look L k2=some v2)(h3:look L k3=some v3)(h4:look L k4=some v4)(h5:look L k5=some v5)(h6:look L k6=some v6)(h7:look L k7=some v7)(h8:look L k8=some v8)(h9:look L k9=some v9)(an:look L k10=some ab)(ao:look L ah=some ad)(aj:look L aa=some M)(ak:look L ai=some ae):Sub L [(k1,v1),(k2,v2),(k3,v3),(k4,v4),(k5,v5),(k6,v6),(k7,v7),(k8,v8),(k9,v9),(k10,ab),(ah,ad),(aa,M),(ai,ae)]:= .cons h1 (.cons h2 (.cons h3 (.cons h4 (.cons h5 (.cons h6 (.cons h7 (.cons h8 (.cons h9 (.cons an (.cons ao (.cons aj (.cons ak .nil))))))))))))
theorem S14(k1 k2 k3 k4 k5 k6 k7 k8 k9 k10 ai aa ak aj:Nat)(h1:look L k1=some v1)(h2:look L k2=some v2)(h3:look L k3=some v3)(h4:look L k4=some v4)(h5:look L k5=some v5)(h6:look L k6=some v6)(h7:look L k7=some v7)(h8:look L k8=some v8)(h9:look L k9=some v9)(aq:look L k10=some ab)(ar:look L ai=some ad)(an:look L aa=some M)(ap:look L ak=some ae)(ao:look L aj=some ah):Sub L [(k1,v1),(k2,v2),(k3,v3),(k4,v4),(k5,v5),(k6,v6),(k7,v7),(k8,v8),(k9,v9),(k10,ab),(ai,ad),(aa,M),(ak,ae),(aj,ah)]:= .cons h1 (.cons h2 (.cons h3 (.cons h4 (.cons h5 (.cons h6 (.cons h7 (.cons h8 (.cons h9 (.cons aq (.cons ar (.cons an (.cons ap (.cons ao .nil)))))))))))))
theorem S15(k1 k2 k3 k4 k5 k6 k7 k8 k9 k10 aj aa ao ak an:Nat)(h1:look L k1=some v1)(h2:look L k2=some v2)(h3:look L k3=some v3)(h4:look L k4=some v4)(h5:look L k5=some v5)(h6:look L k6=some v6)(h7:look L k7=some v7)(h8:look L k8=some v8)(h9:look L k9=some v9)(av:look L k10=some ab)(aw:look L aj=some ad)(ap:look L aa=some M)(au:look L ao=some ah)(ar:look L ak=some ai)(aq:look L an=some ae):Sub L [(k1,v1),(k2,v2),(k3,v3),(k4,v4),(k5,v5),(k6,v6),(k7,v7),(k8,v8),(k9,v9),(k10,ab),(aj,ad),(aa,M),(ao,ah),(ak,ai),(an,ae)]:= .cons h1 (.cons h2 (.cons h3 (.cons h4 (.cons h5 (.cons h6 (.cons h7 (.cons h8 (.cons h9 (.cons av (.cons aw (.cons ap (.cons au (.cons ar (.cons aq .nil))))))))))))))
theorem S16(k1 k2 k3 k4 k5 k6 k7 k8 k9 k10 an ab aq ao ap ak:Nat)(h1:look L k1=some v1)(h2:look L k2=some v2)(h3:look L k3=some v3)(h4:look L k4=some v4)(h5:look L k5=some v5)(h6:look L k6=some v6)(h7:look L k7=some v7)(h8:look L k8=some v8)(h9:look L k9=some v9)(ay:look L k10=some ad)(az:look L an=some ae)(au:look L ab=some M)(ax:look L aq=some ai)(aw:look L ao=some aj)(av:look L ap=some ah)(ar:look L ak=some aa):Sub L [(k1,v1),(k2,v2),(k3,v3),(k4,v4),(k5,v5),(k6,v6),(k7,v7),(k8,v8),(k9,v9),(k10,ad),(an,ae),(ab,M),(aq,ai),(ao,aj),(ap,ah),(ak,aa)]:= .cons h1 (.cons h2 (.cons h3 (.cons h4 (.cons h5 (.cons h6 (.cons h7 (.cons h8 (.cons h9 (.cons ay (.cons az (.cons au (.cons ax (.cons aw (.cons av (.cons ar .nil)))))))))))))))
theorem S17{ak ao:Value}(k1 k2 k3 k4 k5 k6 k7 k8 k9 k10 ap ad au aq ar an M:Nat)(h1:look L k1=some v1)(h2:look L k2=some v2)(h3:look L k3=some v3)(h4:look L k4=some v4)(h5:look L k5=some v5)(h6:look L k6=some v6)(h7:look L k7=some v7)(h8:look L k8=some v8)(h9:look L k9=some v9)(az:look L k10=some ae)(a3:look L ap=some ah)(aw:look L ad=some aa)(a0:look L au=some aj)(ay:look L aq=some ak)(ax:look L ar=some ai)(av:look L an=some ab)(a1:look L M=some ao):Sub L [(k1,v1),(k2,v2),(k3,v3),(k4,v4),(k5,v5),(k6,v6),(k7,v7),(k8,v8),(k9,v9),(k10,ae),(ap,ah),(ad,aa),(au,aj),(aq,ak),(ar,ai),(an,ab),(M,ao)]:= .cons h1 (.cons h2 (.cons h3 (.cons h4 (.cons h5 (.cons h6 (.cons h7 (.cons h8 (.cons h9 (.cons az (.cons a3 (.cons aw (.cons a0 (.cons ay (.cons ax (.cons av (.cons a1 .nil))))))))))))))))
end
end Go.Sl
namespace Go.Sl
open Go.RowKit (Below)
variable{x y:Operand}{T U:TypeId}{E by' n sz:Nat}{ag:Bool}{z:List Value}
def EqT(P:Program)(T:TypeId)(α:Type)[Enc α][DecidableEq α]:Prop:=
 (∀(x y:α) (w:World),(Op.equalIn 10000 T (.agg (Enc.enc x).toArray)<|.agg (Enc.enc y).toArray).run P w = .ok (decide<|x=y) w)/\P.eqGuardType P.depth T=false
section
variable {P:Program}{κ:Ctx}{N:Frm}{Q:Exit->Act->World->Prop}{L:Env}{I J:List Item}
variable {d:Option Tmp}{ty:TypeId}{ps:String}{af:Array Edge}{gd:Option (Nat×Bool)}
theorem Runs.idxArr{T b o:Nat}{i:Int}(ht:P.underlying T=some (.array n E))(hE:tyF P E=some (sz,ag,by',z))(hx:er L x=some (.pointer (some ⟨b,o,none⟩)))
  (hy:er L y=some (e7 i)) (h0:0<=i) (hn:i<n):Runs P κ N ⟨d,.indexAddr T x y,ty,ps,af,gd⟩ L J (.pointer<|some ⟨b,o+i.toNat*sz,none⟩):=
 λa w M hs=>by
  simp [execOp,M.eval hx,M.eval hy,Instr.indexAt,asIntOf,run_underlying ht,h0,hn,run_sizeOf hE,Instr.sureAddr,addr_add]
theorem Runs.eqlT{α:Type}[Enc α][DecidableEq α]{a b:α}(h:EqT P T α)(hx:er L x=some (.agg (Enc.enc a).toArray))(hy:er L y=some (.agg (Enc.enc b).toArray)) :
  Runs P κ N ⟨d,.binOp .eql T x y U,ty,ps,af,gd⟩ L J (.bool<|decide<|a=b):=λaa w M _=>by
 have hg:=run_eqGuard_agg w .eql T x y (Enc.enc a).toArray (Enc.enc b).toArray h.2
 simp only [execOp,M.eval hx,M.eval hy]
 simp [hg,run_eql_struct,h.1]
theorem Runs.neqT{α:Type}[Enc α][DecidableEq α]{a b:α}(h:EqT P T α)(hx:er L x=some (.agg (Enc.enc a).toArray))(hy:er L y=some (.agg (Enc.enc b).toArray)) :
  Runs P κ N ⟨d,.binOp .neq T x y U,ty,ps,af,gd⟩ L J (.bool<|decide<|a≠b):=λaa w M _=>by
 have hg:=run_eqGuard_agg w .neq T x y (Enc.enc a).toArray (Enc.enc b).toArray h.2
 simp only [execOp,M.eval hx,M.eval hy]
 simp [hg,run_neq_struct,h.1]
theorem Runs.eqlb{a b:Bool}(ht:P.underlying T=some .bool)(hx:er L x=some (.bool a))(hy:er L y=some (.bool b)):Runs P κ N ⟨d,.binOp .eql T x y U,ty,ps,af,gd⟩ L J (.bool (decide (a=b))):=
 λaa w M _=>by
  have h:=run_equalIn_bool' (P:=P) w 9999 T a b ht
  simp only [execOp,M.eval hx,M.eval hy,binOp]
  simp [go_sem,Op.equal,Op.maxDepth,h]
  cases a<;>cases b<;>rfl
theorem Runs.quo{m n:Int}(hx:er L x=some (e7 m))(hy:er L y=some (e7 n))(M:0<=m)(h1:0<n)(hr:InR m):Runs P κ N ⟨d,.binOp .quo T x y U,ty,ps,af,gd⟩ L J (e7 (m / n)):=by
 have h:=Runs.quow (P:=P) (κ:=κ) (N:=N) (J:=J) (d:=d) (ty:=ty) (ps:=ps) (af:=af) (gd:=gd) (T:=T) (U:=U) hx hy (by omega)
 have e:IntKind.i64.wrap (Int.tdiv m n)=m / n:=by
  rw [Int.tdiv_eq_ediv_of_nonneg M]
  refine InR.wrap ?_
  have h2:m / n<=m:=Int.ediv_le_self n M
  have h3:0<=m / n:=Int.ediv_nonneg M (by omega)
  unfold InR at *; omega
 rwa [e] at h
theorem Runs.buildArr{T M aa:Nat}{ae:Bool}{z' cells:List Value}{parts:List (Nat×Operand)}{vs:List Value}(hT:tyF P T=some (sz,ag,by',z))(ht:P.underlying T=some (.array n E))(hE:tyF P E=some (M,ae,aa,z'))
  (hp:evalL L (parts.map (·.2))=some vs) (hf:Instr.fill (λi=>some (i*M,M)) z.toArray ((parts.map (·.1)).zip vs)=some cells.toArray):Runs P κ N ⟨d,.build T parts.toArray,ty,ps,af,gd⟩ L J (.agg cells.toArray):=
 λa w ha hs=>by
  obtain ⟨zv,hz,ah⟩:=run_zeroCells hT w
  have ad:parts.map (λp=>(p.1,a.eval p.2))=(parts.map (·.1)).zip vs:=by
   rw [←ha.evalL hp]
   clear hp hf
   induction parts with
   |nil=>rfl
   |cons p ps ih=>simp [ih]
  have ab:List.map (λx:Nat×Operand=>match x with |(i,x)=>(i,a.eval x)) parts=(parts.map (·.1)).zip vs:=ad
  simp only [execOp,Instr.build,Sem.run_bind,hz,Result.andThen_ok,run_underlying ht,run_sizeOf hE,List.map_toArray,ab,ah,hf,Sem.run_pure]
theorem V.ret3{fn:Func}{t u s:Tmp}{v v' M:Value}{Post:Value->List Item->Prop}(hr:fn.results = #[.tmp t,.tmp u,.tmp s])(hv:look L t=some v)(ab:look L u=some v')(aa:look L s=some M)(J:List Item)(hf:Fit κ I J)(hp:Post (.tuple #[v,v',M]) J)(h0:N.ds=[]:=by rfl):V κ N (bodyPost P fn (RetR κ Post)) .ret L I:=
 λa w ha hs=>bodyPost_ret (v:= .tuple #[v,v',M]) (by simp [results,hr,ha.get t v hv,ha.get u v' ab,ha.get s M aa]) (ha.defers.trans h0) ⟨_,J,rfl,hp,hf w hs⟩
end
structure RowG (α:Type) where
 a:Option Addr
 c:Nat
 xs:List α
instance {α:Type}:Inhabited (RowG α):=⟨⟨none,0,[]⟩⟩
instance {α:Type}:Enc (RowG α):=⟨λr=>[.slice r.a r.xs.length r.c],1,by omega,λ_=>rfl,λr u hu=>by
 simp only [List.mem_cons,List.not_mem_nil,or_false] at hu
 rcases hu with rfl
 rfl⟩
end Go.Sl
namespace Go.Sl
open Go.RowKit (Below)
variable{e:TypeId}{ad:Option Addr}{E T b by' c h n o sz:Nat}{x:Operand}{ag:Bool}{cs z:List Value}
theorem zeroCells_one{z:Array Value}(h:∀u∈z,u.oneCell'=true)(n:Nat):∀u∈(Builtin.zeroCells z n).toList,u.oneCell'=true:=λu hu=>by
 simp only [Builtin.zeroCells,Array.toList_map,List.mem_map,Array.toList_range,List.mem_range] at hu
 obtain ⟨i,hi,rfl⟩:=hu
 have hz:0<z.size:=Nat.pos_of_ne_zero λe=>by rw [e] at hi;simp at hi
 have M:i % z.size<z.size:=Nat.mod_lt _ hz
 rw [getElem!_pos z _ M]
 exact h _<|Array.getElem_mem M
section
variable {P:Program}{κ:Ctx}{N:Frm}{Q:Exit->Act->World->Prop}{L:Env}{I J:List Item}
variable {d:Option Tmp}{ty:TypeId}{ps:String}{af:Array Edge}{gd:Option (Nat×Bool)}
variable {α:Type}[Enc α]{xs:List α}
theorem cutshort(hh:h<=xs.length):∀w,(vc e (.slice ad n c) xs).ok w->(vc e (.slice ad (xs.take h).length c) (xs.take h)).ok w/\
  ∀k,(vc e (.slice ad (xs.take h).length c)<|xs.take h).fp k->(vc e (.slice ad n c) xs).fp k:=by
 intro w hw
 obtain ⟨a,cap,hv,h1,h2,h3,h4⟩:=hw
 cases hv
 refine ⟨⟨ad,c,rfl,cells_length _,by rw [List.length_take];omega,h3,λhc=>?_⟩,λk hk=>?_⟩
 ·obtain ⟨b,off,cur,rfl,hb,aa,M⟩:=h4 hc
  refine ⟨b,off,cur,rfl,hb,aa,λj u hj=>M j u ?_⟩
  rw [cells_take,List.getElem?_take] at hj
  split at hj
  ·exact hj
  cases hj
 obtain ⟨off,n',ab,hv,hc⟩:=hk
 simp only [Value.slice.injEq] at hv
 obtain ⟨rfl,_,rfl⟩:=hv
 exact ⟨off,_,_,rfl,hc⟩
theorem Eff.of_value0{o:Oper}{R:Env->List Item->Prop}(hd:o.dst=none)
  (h:∀a w,Ag N a L->Sep κ w I->∃v w' I',(execOp a.eval o).run P w = .ok (.value v) w'/\R L I'/\Sep κ w' I'):Eff P κ N Q o L I R:=λa w ha hs=>by
 obtain ⟨v,w',I',hr,hR,M⟩:=h a w ha hs
 simp only [Oper.wp,hr,Oper.upon,hd]
 exact ⟨_,_,hR,ha,M⟩
theorem Eff.clear{t e k:Nat}{I':List Item}(ht:P.underlying t=some (.slice e))(hT:tyF P e=some (Enc.sz α,ag,by',z))(hz:AllOne z)(az:z.length=Enc.sz α)
  (hx:er L x=some (.slice (adrop ad c k<|Enc.sz α) (xs.drop k).length (c - k))) (hk:k<=xs.length) (M:At I (vc e (.slice ad n c) xs) (vc e (.slice ad (xs.take k).length c)<|xs.take k) I') :
  Eff P κ N Q ⟨none,.call {callee:= .builtin .clear,args:= #[x],argTypes:= #[t]},ty,ps,af,gd⟩ L I λL' I''=>L'=L/\I''=I':=
 Eff.of_value0 rfl λa w ha hs=>by
  have an:=(hs.ok _ M.mem).1
  have a4:=an
  obtain ⟨a',a3,hv,hl,ap,a0,ai⟩:=an
  cases hv
  by_cases hkl:k=xs.length
  ·subst hkl
   refine ⟨.tuple #[],w,I',?_,⟨rfl,rfl⟩,Fit.upd M (cutshort<|Nat.le_refl _) w hs⟩
   have e0:(xs.drop xs.length).length=0:=by simp
   rw [e0] at hx
   generalize adrop ad c xs.length (Enc.sz α)=aa at hx
   cases aa<;>simp [execOp,resolve,invoke,builtin,ha.eval hx,Builtin.clear_,run_underlying ht]
  have a6:k<xs.length:=by omega
  obtain ⟨b,off,cur,rfl,hb,ar,ah⟩:=ai (by omega)
  obtain ⟨zv,ay,ak⟩:=run_zeroCells hT w
  have hm:(xs.drop k).length=xs.length - k:=List.length_drop
  have a5:xs.length*Enc.sz α<=c*Enc.sz α:=Nat.mul_le_mul_right _ ap
  have ab:k*Enc.sz α+(xs.length - k)*Enc.sz α=xs.length*Enc.sz α:=by rw [←Nat.add_mul];congr 1;omega
  have hlen:(Builtin.zeroCells zv.cells<|xs.length - k).toList.length=(xs.length - k)*Enc.sz α:=by
   rw [Array.length_toList,size_zeroCells,ak,List.size_toArray,az]
  have h1:∀u∈(Builtin.zeroCells zv.cells<|xs.length - k).toList,u.oneCell'=true:=zeroCells_one (by rw [ak];intro u hu;exact hz.all u<|by simpa using hu) _
  obtain ⟨m,aq⟩:∃m,(xs.drop k).length=m+1:=⟨xs.length - k - 1,by omega⟩
  have aj:xs.length - k=m+1:=by omega
  obtain ⟨Z,hZ⟩:∃Z,Z=(Builtin.zeroCells zv.cells<|m+1).toList:=⟨_,rfl⟩
  rw [aj,←hZ] at hlen h1
  rw [aj] at ab
  have ae:=run_storeCells_at P b (off+k*Enc.sz α) e Z 0 cur w hb (by rw [hlen];omega) h1
  simp only [Nat.add_zero] at ae
  have ao:er L x=some (.slice (some ⟨b,off+k*Enc.sz α,none⟩) (m+1)<|c - k):=by
   rw [hx,aq];unfold adrop;rw [if_neg (by omega)];simp [addr_add]
  refine ⟨.tuple #[],_,I',by simp only [execOp,resolve,invoke,builtin,List.map_toArray,List.map_cons,List.map_nil,ha.eval ao];simp [Builtin.clear_,run_underlying ht,ay];rw [←hZ,ae];simp only [Result.andThen_ok];rfl,⟨rfl,rfl⟩,?_⟩
  refine hs.upd M rfl ⟨rfl,Nat.le_refl _⟩ rfl (by simp) (λk' _ au=>setRow_other w b k' _ λe=>au<|by subst e;exact ⟨off,xs.length,c,rfl,by omega⟩) ?_ λk hk=> .inl ?_
  ·refine ⟨_,c,rfl,cells_length _,by rw [List.length_take];omega,a0,λhc=>⟨b,off,_,rfl,setRow_heap w b cur _ e _ hb,?_,λj u' hj=>?_⟩⟩
   ·simp only [List.size_toArray,List.length_append,List.length_take,List.length_drop,hlen,Array.length_toList];omega
   have av:j<k*Enc.sz α:=by
    have:=(List.getElem?_eq_some_iff.1 hj).1
    rw [cells_length,List.length_take] at this
    have h2:min k xs.length=k:=by omega
    rw [h2] at this
    exact this
   rw [cells_take,List.getElem?_take,if_pos av] at hj
   have:=ah j u' hj
   rw [List.getElem?_toArray,List.getElem?_append_left (by simp only [List.length_append,List.length_take,Array.length_toList];omega),List.getElem?_append_left (by simp only [List.length_take,Array.length_toList];omega),List.getElem?_take,if_pos<|by omega]
   simpa using this
  obtain ⟨a1,n',c',aw,ax⟩:=hk
  cases aw
  exact ⟨off,xs.length,c,rfl,ax⟩
theorem Runs.hiraw{y:Operand}{m:Int}(ht:P.underlying T=some (.slice E))(hE:tyF P E=some (sz,ag,by',z))(hx:er L x=some (.slice ad n c))(hy:er L y=some (e7 m))(M:m=(h:Int))
  (hh:h<=c):Runs P κ N ⟨d,.slice T x none (some y) none,ty,ps,af,gd⟩ L J (.slice ad h c):=λa w ha hs=>by
 subst M
 have:=Runs.slice (P:=P) (κ:=κ) (N:=N) (L:=L) (J:=J) (d:=d) (ty:=ty) (ps:=ps) (af:=af) (gd:=gd) (l:=0) (h:=h) ht hE hx (.inl ⟨rfl,rfl⟩) (.inr ⟨y,rfl,hy⟩) (Nat.zero_le _) hh a w ha hs
 rw [this]
 have e:(if c=0 then ad else ad.map (λx=>x.add<|0*sz))=ad:=by
  split
  ·rfl
  cases ad<;>simp [Addr.add]
 rw [e]
 rfl
theorem Sl.dropn{l m:Nat}(hv:Sl κ I (.slice ad n c) xs)(hl:l<=xs.length)(M:m=xs.length - l):Sl κ I (.slice (adrop ad c l (Enc.sz α)) m (c - l)) (xs.drop l):=by
 have h:=Sl.drop hv hl
 rw [List.length_drop,←M] at h
 exact h
theorem vc.cap(h:vc e (.slice ad n c) xs∈I):∀w,Sep κ w I->xs.length<=c:=λw hs=>by
 obtain ⟨_,_,M,_,h1,_⟩:=(Sl.vec (κ:=κ) h) w hs
 cases M
 exact h1
theorem Runs.caps(ht:P.underlying T=some (.slice E))(hx:er L x=some (.slice ad n c)) :
  Runs P κ N ⟨d,.call {callee:= .builtin .cap,args:= #[x],argTypes:= #[T]},ty,ps,af,gd⟩ L J (e7 c):=
 λa w M hs=>by
  simp [execOp,resolve,invoke,builtin,M.eval hx,Builtin.cap_,run_underlying ht,goInt]
def BlkRd(κ:Ctx)(I:List Item)(b:Nat)(cs:List Value)(T:TypeId):Prop:=∀w,Sep κ w I->w.heap[b]? = some (.cells cs.toArray T (0,0))
theorem BlkRd.fit{T:TypeId}(h:BlkRd κ I b cs T)(M:Fit κ J I):BlkRd κ J b cs T:=λw s=>h w (M w s)
theorem BlkRd.of{T:TypeId}(h:e8 b cs T∈I):BlkRd κ I b cs T:=λw s=>(s.ok _ h).1
theorem Runs.loadB{v:Value}(hT:tyF P T=some (sz,false,by',z))(hx:er L x=some (.pointer (some ⟨b,o,none⟩)))(hb:BlkRd κ J b cs E)(M:cs[o]? = some v) :
  Runs P κ N ⟨d,.load T x,ty,ps,af,gd⟩ L J v:=
 λa w ha hs=>by
  have:=cell_blk (w:=w) (hb w hs) o
  simp [execOp,ha.eval hx,Instr.loadAt,Instr.sureAddr,run_loadVar_one hT<|this.trans M]
theorem Runs.loadBs{vs:List Value}(hT:tyF P T=some (sz,true,by',z))(hx:er L x=some (.pointer (some ⟨b,o,none⟩)))(hb:BlkRd κ J b cs E)(hc:(cs.drop o).take sz=vs)(hl:vs.length=sz) :
  Runs P κ N ⟨d,.load T x,ty,ps,af,gd⟩ L J (.agg vs.toArray):=
 λa w ha hs=>by
  have M:=λj=>cell_blk (w:=w) (hb w hs) j
  have:(loadVar T ⟨b,o,none⟩).run P w = .ok (.agg vs.toArray) w:=run_loadVar_agg hT hl λj u hj=>by
   rw [addr_add,M,←hj,←hc,List.getElem?_take,if_pos<|by have:=(List.getElem?_eq_some_iff.1 hj).1;omega,List.getElem?_drop]
  simp [execOp,ha.eval hx,Instr.loadAt,Instr.sureAddr,this]
def Says(P:Program)(κ:Ctx)(I:List Item)(g:FuncId)(caps:List Value)(p:α->Bool):Prop:=callable P g=true/\∀(x:α) (J:List Item),Fit κ J I->eu P κ g ([]++[.agg (Enc.enc x).toArray]++caps) J λr J'=>r = .bool (p x)/\J=J'
theorem Says.fit{g:FuncId}{caps:List Value}{p:α->Bool}(h:Says P κ I g caps p)(hf:Fit κ J I):Says P κ J g caps p:=⟨h.1,λx K M=>h.2 x K (M.trans hf)⟩
end
end Go.Sl
namespace Go.Sl
section
variable {P:Program}{κ:Ctx}{N:Frm}{Q:Exit->Act->World->Prop}{L:Env}{I:List Item}
theorem wp_scope_ghost{c rest:Code}{a:Act}{w:World}(l:Nat){σ:Type}(R:σ->Act->World->Prop)(μ:σ->Nat)(hf:findLabel c l=some rest)
  (first:c.wp P (Exit.jump l (λa w=>∃s,R s a w) Q) a w)
  (pass:∀s a w,R s a w->rest.wp P (Exit.jump l (λa' w'=>∃s',R s' a' w'/\μ s'<μ s) Q) a w):(Code.scope c).wp P Q a w:=by
 intro b k cs
 have hg:gotoIn l (.inScope c::k)=some (.code rest :: .inScope c::k):=by simp [gotoIn,hf]
 have ad:∀n s a w,μ s=n->R s a w->∃e a' w',Q e a' w'/\Arrives P (lone (b.at a<|.code rest :: .inScope c::k) cs w) b k cs e a' w':=by
  intro n
  induction n using Nat.strongRecOn with
  |_ n ih=>
   intro s a w hn hR
   obtain ⟨e,a₁,w₁,hq,M⟩:=pass s a w hR b (.inScope c::k) cs
   cases e with
   |normal=>exact ⟨.normal,a₁,w₁,hq,Steps.trans M<|.one step_inScope⟩
   |exit id=>exact ⟨.exit id,a₁,w₁,hq,λk' hk=>M k'<|by simp [exitTo,hk]⟩
   |goto l'=>
    obtain ⟨rfl,s',ae,hlt⟩:=hq
    obtain ⟨e₂,a₂,w₂,ab,aa⟩:=ih _ (by omega) s' a₁ w₁ rfl ae
    exact ⟨e₂,a₂,w₂,ab,.of_steps (M _ hg) aa⟩
   |ret=>exact ⟨_,a₁,w₁,hq,M⟩
   |panic ch=>exact ⟨_,a₁,w₁,hq,M⟩
   |outgrown=>exact ⟨_,a₁,w₁,hq,M⟩
 obtain ⟨e,a₁,w₁,hq,M⟩:=first b (.inScope c::k) cs
 cases e with
 |normal=>exact ⟨.normal,a₁,w₁,hq,.head step_scope<|Steps.trans M<|.one step_inScope⟩
 |exit id=>exact ⟨.exit id,a₁,w₁,hq,λk' hk=> .head step_scope<|M k'<|by simp [exitTo,hk]⟩
 |goto l'=>
  obtain ⟨rfl,s,hR⟩:=hq
  obtain ⟨e₂,a₂,w₂,ab,aa⟩:=ad _ s a₁ w₁ rfl hR
  exact ⟨e₂,a₂,w₂,ab,.of_steps (.head step_scope<|M _ hg) aa⟩
 |ret=>exact ⟨_,a₁,w₁,hq,.of_steps (.one step_scope) M⟩
 |panic ch=>exact ⟨_,a₁,w₁,hq,.of_steps (.one step_scope) M⟩
 |outgrown=>exact ⟨_,a₁,w₁,hq,.of_steps (.one step_scope) M⟩
theorem V.jump_normal{l:Nat}{K:Act->World->Prop}(h:V κ N Q .normal L I):V κ N (Exit.jump l K Q) .normal L I:=h
theorem V.jump_ret{l:Nat}{K:Act->World->Prop}(h:V κ N Q .ret L I):V κ N (Exit.jump l K Q) .ret L I:=h
end
end Go.Sl
namespace Go.Sl
section
variable {P:Program}{κ:Ctx}{N:Frm}{Q:Exit->Act->World->Prop}{L:Env}{I:List Item}
theorem W.scope0{c rest:Code}{l:Nat}(hf:findLabel c l=some rest)(h:W P κ N c (Exit.jump l (λ_ _=>∃s:Unit,False) Q) L I):W P κ N (.scope c) Q L I:=λa w ha hs=>
 wp_scope_ghost l (fun (_:Unit) _ _=>False) (λ_=>0) hf (h a w ha hs) λ_ _ _ M=>M.elim
theorem W.label{l:Nat}(h:V κ N Q .normal L I):W P κ N (.label l) Q L I:=λa w M hs=>wp_label (h a w M hs)
end
end Go.Sl
