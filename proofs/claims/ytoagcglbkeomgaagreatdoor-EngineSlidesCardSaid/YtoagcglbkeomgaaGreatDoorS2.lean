/- A part of the proofs of statements of this seat: contracts of functions, and the plain laws that they lean on. No conditions. -/
import Derived.Test.YtoagcglbkeomgaaGreatDoorS1
import Derived.Laws.StructEq
import Derived.ChangeKeysEq
set_option linter.unusedVariables false
set_option linter.unusedSimpArgs false
set_option linter.unusedSectionVars false
namespace Go.Sl
variable{E T b by' d dd fuel i n stop sz:Nat}{M Z aa ab ad ae ah ai ak aq c0 c1 c2 c3 c4 c5 e0 e1 e2 e3 e4 e5 e6 v v0 v1 v2 v3 v4 v5 v6 v7 v8 v9:Value}{x y:Operand}{cs z:List Value}{U:TypeId}{m:Int}{I' I1:List Item}{ag:Bool}{L1:Env}
section
variable {P:Program}{κ:Ctx}{N:Frm}{Q:Exit->Act->World->Prop}{L:Env}{I J:List Item}{ops:Array Oper}{o:Oper}{rest:List Oper}{q:Op}{ty:TypeId}{ps:String}{af:Array Edge}{gd:Option (Nat×Bool)}
theorem Gr(M:Runs P κ N ⟨some d,q,ty,ps,af,none⟩ L I v)(h:G P κ N ops Q rest ((d,v)::L) I)(Z:Nat.blt d N.n=true:=by exact rfl):G P κ N ops Q (⟨some d,q,ty,ps,af,none⟩::rest) L I:=G.read (Wanted.plain rfl) rfl Z M h
theorem Gm(M:er L x=some v)(h:G P κ N ops Q rest ((d,v)::L) I)(Z:Nat.blt d N.n=true:=by exact rfl):G P κ N ops Q (⟨some d,.move x,ty,ps,af,none⟩::rest) L I:=Gr (Runs.move M) h Z
theorem Ga(M:er L x=some v)(h:G P κ N ops Q rest ((d,v)::L) I)(Z:Nat.blt d N.n=true:=by exact rfl):G P κ N ops Q (⟨some d,.assign x,ty,ps,af,none⟩::rest) L I:=Gr (Runs.assign M) h Z
theorem e9(M:Runs P κ N ⟨some d,q,ty,ps,af,gd⟩ L I v)(h:G P κ N ops Q rest ((d,v)::L) I)(hw:Wanted N ops ⟨some d,q,ty,ps,af,gd⟩ L:=by exact Wanted.on rfl rfl rfl)(Z:Nat.blt d N.n=true:=by exact rfl):G P κ N ops Q (⟨some d,q,ty,ps,af,gd⟩::rest) L I:=G.read hw rfl Z M h
theorem ee(h:G P κ N ops Q rest ((d,undef)::L) I)(M:Unwanted N ops ⟨some d,q,ty,ps,af,gd⟩ L:=by exact Unwanted.und rfl rfl rfl)(Z:Nat.blt d N.n=true:=by exact rfl):G P κ N ops Q (⟨some d,q,ty,ps,af,gd⟩::rest) L I:=G.pass M rfl Z h
theorem eb(h:G P κ N ops Q rest ((d,undef)::L) I)(M:Unwanted N ops ⟨some d,q,ty,ps,af,gd⟩ L:=by exact Unwanted.off rfl rfl rfl)(Z:Nat.blt d N.n=true:=by exact rfl):G P κ N ops Q (⟨some d,q,ty,ps,af,gd⟩::rest) L I:=G.pass M rfl Z h
theorem V.nx{σ:Type}{Lv:σ->Env}{Iv:σ->List Item}{p:σ->Prop}{μ:σ->Nat}{s:σ}(Z:σ)(M:p Z)(hlt:μ Z<μ s:=by (try dsimp only);omega)
  (hL:Sub L (Lv Z):=by repeat (first|exact Sub.nil|refine Sub.cons rfl ?_|refine Sub.cons lookO ?_|refine Sub.cons (lookV rfl<|by first|rfl|simp) ?_)) (hI:Fit κ I (Iv Z):=by (try dsimp only);exact Fit.s) :
  V κ N (Exit.then (LoopK κ N Lv Iv p μ s) Q) .normal L I:=V.next Z M hlt hL hI
theorem V.mi{σ:Type}{Lv:σ->Env}{Iv:σ->List Item}{p:σ->Prop}(s:σ)(Z:p s)
  (hL:Sub L (Lv s):=by repeat (first|exact Sub.nil|refine Sub.cons rfl ?_|refine Sub.cons lookO ?_|refine Sub.cons (lookV rfl<|by first|rfl|simp) ?_)) (hI:Fit κ I (Iv s):=by (try dsimp only);exact Fit.s) :
  V κ N (Exit.then (MidK κ N Lv Iv p) Q) .normal L I:=V.mid s Z hL hI
theorem Dr{Z:Array Bool}(i:Nat)(hi:ops[i]? = some ⟨some d,q,ty,ps,af,gd⟩)(M:Runs P κ N ⟨some d,q,ty,ps,af,gd⟩ L J v)(h:D P κ N ops Q J stop fuel (Z.setIfInBounds i true) ((d,v)::L) I)(hw:Wanted N ops ⟨some d,q,ty,ps,af,gd⟩ L:=by exact Wanted.plain rfl)
  (hN:Nat.blt d N.n=true:=by exact rfl) (aa:Region.noSelect ops=true:=by kernel_rfl) (hf:Region.free .any ops Z i=true:=by kernel_rfl)
  (hr:(Region.ready .any ops Z).contains i=true:=by kernel_rfl) (ab:Nat.beq i stop=false:=by exact rfl) (ad:waitsFor .any ops stop i=true:=by kernel_rfl)
  (hQ:∀c a u w,Q (.panic c) (a.put (some d) u) w->Q (.panic c) a w:=by exact λ_ _ _ _ h=>h) (hJ:Fit κ I J:=by first|((repeat (first|exact Fit.refl _|apply Fit.tail|exact Fit.appR _ _|apply Fit.appL));done)|(refine Fit.of_sublist ?_;(repeat (first|exact List.Sublist.refl _|apply List.Sublist.cons_cons|apply List.Sublist.cons|exact List.sublist_append_right _ _));done)|(refine Fit.sp ?_;(repeat (first|exact Sp.refl _|refine Sp.pick (by repeat (first|exact Pick.head _ _|apply Pick.tail|apply Pick.app)) ?_|apply Sp.skip|exact Sp.appR _ _));done)):D P κ N ops Q J stop (fuel+1) Z L I:=D.read i hi aa hf hr ab ad hQ hw rfl hN hJ M h
theorem Dro{Z:Array Bool}(i:Nat)(hi:ops[i]? = some ⟨some d,q,ty,ps,af,gd⟩)(M:Runs P κ N ⟨some d,q,ty,ps,af,gd⟩ L J v)(h:D P κ N ops Q J stop fuel (Z.setIfInBounds i true) ((d,v)::L) I)(hw:Wanted N ops ⟨some d,q,ty,ps,af,gd⟩ L:=by exact Wanted.on rfl rfl rfl)
  (hN:Nat.blt d N.n=true:=by exact rfl) (aa:Region.noSelect ops=true:=by kernel_rfl) (hf:Region.free .any ops Z i=true:=by kernel_rfl)
  (hr:(Region.ready .any ops Z).contains i=true:=by kernel_rfl) (ab:Nat.beq i stop=false:=by exact rfl) (ad:waitsFor .any ops stop i=true:=by kernel_rfl)
  (hQ:∀c a u w,Q (.panic c) (a.put (some d) u) w->Q (.panic c) a w:=by exact λ_ _ _ _ h=>h) (hJ:Fit κ I J:=by first|((repeat (first|exact Fit.refl _|apply Fit.tail|exact Fit.appR _ _|apply Fit.appL));done)|(refine Fit.of_sublist ?_;(repeat (first|exact List.Sublist.refl _|apply List.Sublist.cons_cons|apply List.Sublist.cons|exact List.sublist_append_right _ _));done)|(refine Fit.sp ?_;(repeat (first|exact Sp.refl _|refine Sp.pick (by repeat (first|exact Pick.head _ _|apply Pick.tail|apply Pick.app)) ?_|apply Sp.skip|exact Sp.appR _ _));done)):D P κ N ops Q J stop (fuel+1) Z L I:=D.read i hi aa hf hr ab ad hQ hw rfl hN hJ M h
theorem Dpu{Z:Array Bool}(i:Nat)(hi:ops[i]? = some ⟨some d,q,ty,ps,af,gd⟩)(h:D P κ N ops Q J stop fuel (Z.setIfInBounds i true) ((d,undef)::L) I)(hw:Unwanted N ops ⟨some d,q,ty,ps,af,gd⟩ L:=by exact Unwanted.und rfl rfl rfl)
  (hN:Nat.blt d N.n=true:=by exact rfl) (ab:Region.noSelect ops=true:=by kernel_rfl) (hf:Region.free .any ops Z i=true:=by kernel_rfl)
  (hr:(Region.ready .any ops Z).contains i=true:=by kernel_rfl) (M:Nat.beq i stop=false:=by exact rfl) (aa:waitsFor .any ops stop i=true:=by kernel_rfl)
  (hQ:∀c a u w,Q (.panic c) (a.put (some d) u) w->Q (.panic c) a w:=by exact λ_ _ _ _ h=>h) (hJ:Fit κ I J:=by first|((repeat (first|exact Fit.refl _|apply Fit.tail|exact Fit.appR _ _|apply Fit.appL));done)|(refine Fit.of_sublist ?_;(repeat (first|exact List.Sublist.refl _|apply List.Sublist.cons_cons|apply List.Sublist.cons|exact List.sublist_append_right _ _));done)|(refine Fit.sp ?_;(repeat (first|exact Sp.refl _|refine Sp.pick (by repeat (first|exact Pick.head _ _|apply Pick.tail|apply Pick.app)) ?_|apply Sp.skip|exact Sp.appR _ _));done)):D P κ N ops Q J stop (fuel+1) Z L I:=D.pass i hi ab hf hr M aa hQ hw rfl hN hJ h
theorem Dpo{Z:Array Bool}(i:Nat)(hi:ops[i]? = some ⟨some d,q,ty,ps,af,gd⟩)(h:D P κ N ops Q J stop fuel (Z.setIfInBounds i true) ((d,undef)::L) I)(hw:Unwanted N ops ⟨some d,q,ty,ps,af,gd⟩ L:=by exact Unwanted.off rfl rfl rfl)
  (hN:Nat.blt d N.n=true:=by exact rfl) (ab:Region.noSelect ops=true:=by kernel_rfl) (hf:Region.free .any ops Z i=true:=by kernel_rfl)
  (hr:(Region.ready .any ops Z).contains i=true:=by kernel_rfl) (M:Nat.beq i stop=false:=by exact rfl) (aa:waitsFor .any ops stop i=true:=by kernel_rfl)
  (hQ:∀c a u w,Q (.panic c) (a.put (some d) u) w->Q (.panic c) a w:=by exact λ_ _ _ _ h=>h) (hJ:Fit κ I J:=by first|((repeat (first|exact Fit.refl _|apply Fit.tail|exact Fit.appR _ _|apply Fit.appL));done)|(refine Fit.of_sublist ?_;(repeat (first|exact List.Sublist.refl _|apply List.Sublist.cons_cons|apply List.Sublist.cons|exact List.sublist_append_right _ _));done)|(refine Fit.sp ?_;(repeat (first|exact Sp.refl _|refine Sp.pick (by repeat (first|exact Pick.head _ _|apply Pick.tail|apply Pick.app)) ?_|apply Sp.skip|exact Sp.appR _ _));done)):D P κ N ops Q J stop (fuel+1) Z L I:=D.pass i hi ab hf hr M aa hQ hw rfl hN hJ h
theorem Ds1{Z:Array Bool}(i:Nat)(h:Step P κ N ops Q J stop fuel Z L I i)(hr:Region.ready .any ops Z=[i]:=by kernel_rfl)(M:([i]==[stop])=false:=by exact rfl):D P κ N ops Q J stop (fuel+1) Z L I:=D.step hr rfl M (all1 h)
theorem Se{Z:Array Bool}{R:Env->List Item->Prop}(hi:ops[i]? = some o)(M:Eff P κ N Q o L I R)(h:∀L' I',R L' I'->Fit κ I' J/\D P κ N ops Q J stop fuel (Z.setIfInBounds i true) L' I')(hw:Wanted N ops o L:=by first|exact Wanted.plain rfl|exact Wanted.on rfl rfl rfl):Step P κ N ops Q J stop fuel Z L I i:=Step.eff hi hw M h
theorem Sr{Z:Array Bool}(hi:ops[i]? = some ⟨some d,q,ty,ps,af,gd⟩)(hr:Runs P κ N ⟨some d,q,ty,ps,af,gd⟩ L I v)(hf:Fit κ I J)(h:D P κ N ops Q J stop fuel (Z.setIfInBounds i true) ((d,v)::L) I)(M:Wanted N ops ⟨some d,q,ty,ps,af,gd⟩ L:=by first|exact Wanted.plain rfl|exact Wanted.on rfl rfl rfl)(hN:Nat.blt d N.n=true:=by exact rfl):Step P κ N ops Q J stop fuel Z L I i:=Step.read hi M rfl hN hr hf h
theorem Ae{Z:Array Bool}(i:Nat){R:Env->List Item->Prop}(hi:ops[i]? = some o)(M:Eff P κ N Q o L I R)(h:∀L' I',R L' I'->A P κ N ops Q fuel (Z.setIfInBounds i true) L' I')(hw:Wanted N ops o L:=by first|exact Wanted.plain rfl|exact Wanted.on rfl rfl rfl)(hr:Region.ready .any ops Z=[i]:=by kernel_rfl):A P κ N ops Q (fuel+1) Z L I:=A.eff hr hi hw M h
theorem Gf{k off o:Nat}(h:fldF P T k=some off)(Z:er L x=some (.pointer (some ⟨b,o,none⟩)))(M:G P κ N ops Q rest ((d,.pointer (some ⟨b,o+off,none⟩))::L) I)(hN:Nat.blt d N.n=true:=by exact rfl):G P κ N ops Q (⟨some d,.fieldAddr T x k,ty,ps,af,none⟩::rest) L I:=Gr (Runs.fieldAddr h Z) M hN
theorem Gl{o:Nat}(M:tyF P T=some (sz,false,by',z))(h:G P κ N ops Q rest ((d,v)::L) I)(Z:er L x=some (.pointer (some ⟨b,o,none⟩)):=by exact rfl)
  (hb:e8 b cs E∈I:=by repeat (first|exact List.mem_cons_self|apply List.mem_cons_of_mem)) (hc:cs[o]? = some v:=by exact rfl) (hN:Nat.blt d N.n=true:=by exact rfl):G P κ N ops Q (⟨some d,.load T x,ty,ps,af,none⟩::rest) L I:=Gr (Runs.load M Z hb hc) h hN
theorem Rad{d:Option Tmp}{T:TypeId}{n:Int}(M:er L x=some (e7 m))(Z:er L y=some (e7 n))(hr:InR (m+n):=by unfold InR;omega):Runs P κ N ⟨d,.binOp .add T x y U,ty,ps,af,gd⟩ L J (e7 (m+n)):=Runs.add M Z hr
theorem Rsu{d:Option Tmp}{T:TypeId}{n:Int}(M:er L x=some (e7 m))(Z:er L y=some (e7 n))(hr:InR (m - n):=by unfold InR;omega):Runs P κ N ⟨d,.binOp .sub T x y U,ty,ps,af,gd⟩ L J (e7 (m - n)):=Runs.sub M Z hr
theorem mm{x:Item}(h:x∈I:=by repeat (first|exact List.mem_cons_self|apply List.mem_cons_of_mem)):x∈I:=h
theorem am{x y:Item}(h:At I x y I':=by repeat (first|exact At.head _ _ _|apply At.tail)):At I x y I':=h
theorem om{p:Prop}(h:p:=by omega):p:=h
theorem oo{p:Prop}(h:p:=by first|omega|(simp only [List.length_set];omega)):p:=h
theorem Gl2{o:Nat}(hT:tyF P T=some (sz,true,by',z))(h:G P κ N ops Q rest ((d,.agg #[M,Z])::L) I)(hx:er L x=some (.pointer (some ⟨b,o,none⟩)):=by exact rfl)
  (hb:e8 b cs E∈I:=by repeat (first|exact List.mem_cons_self|apply List.mem_cons_of_mem)) (hc:(cs.drop o).take sz=[M,Z]:=by exact rfl) (hl:[M,Z].length=sz:=by exact rfl) (hN:Nat.blt d N.n=true:=by exact rfl):G P κ N ops Q (⟨some d,.load T x,ty,ps,af,none⟩::rest) L I:=Gr (Runs.loads hT hx hb hc hl) h hN
theorem Gl3{o:Nat}(hT:tyF P T=some (sz,true,by',z))(h:G P κ N ops Q rest ((d,.agg #[v0,Z,M])::L) I)(hx:er L x=some (.pointer (some ⟨b,o,none⟩)):=by exact rfl)
  (hb:e8 b cs E∈I:=by repeat (first|exact List.mem_cons_self|apply List.mem_cons_of_mem)) (hc:(cs.drop o).take sz=[v0,Z,M]:=by exact rfl) (hl:[v0,Z,M].length=sz:=by exact rfl) (hN:Nat.blt d N.n=true:=by exact rfl):G P κ N ops Q (⟨some d,.load T x,ty,ps,af,none⟩::rest) L I:=Gr (Runs.loads hT hx hb hc hl) h hN
theorem Gl4{o:Nat}(hT:tyF P T=some (sz,true,by',z))(h:G P κ N ops Q rest ((d,.agg #[v0,Z,M,v3])::L) I)(hx:er L x=some (.pointer (some ⟨b,o,none⟩)):=by exact rfl)
  (hb:e8 b cs E∈I:=by repeat (first|exact List.mem_cons_self|apply List.mem_cons_of_mem)) (hc:(cs.drop o).take sz=[v0,Z,M,v3]:=by exact rfl) (hl:[v0,Z,M,v3].length=sz:=by exact rfl) (hN:Nat.blt d N.n=true:=by exact rfl):G P κ N ops Q (⟨some d,.load T x,ty,ps,af,none⟩::rest) L I:=Gr (Runs.loads hT hx hb hc hl) h hN
theorem Gl6{o:Nat}(hT:tyF P T=some (sz,true,by',z))(h:G P κ N ops Q rest ((d,.agg #[v0,Z,M,v3,v4,v5])::L) I)(hx:er L x=some (.pointer (some ⟨b,o,none⟩)):=by exact rfl)
  (hb:e8 b cs E∈I:=by repeat (first|exact List.mem_cons_self|apply List.mem_cons_of_mem)) (hc:(cs.drop o).take sz=[v0,Z,M,v3,v4,v5]:=by exact rfl) (hl:[v0,Z,M,v3,v4,v5].length=sz:=by exact rfl) (hN:Nat.blt d N.n=true:=by exact rfl):G P κ N ops Q (⟨some d,.load T x,ty,ps,af,none⟩::rest) L I:=Gr (Runs.loads hT hx hb hc hl) h hN
theorem Gl7{o:Nat}(hT:tyF P T=some (sz,true,by',z))(h:G P κ N ops Q rest ((d,.agg #[v0,Z,M,v3,v4,v5,v6])::L) I)(hx:er L x=some (.pointer (some ⟨b,o,none⟩)):=by exact rfl)
  (hb:e8 b cs E∈I:=by repeat (first|exact List.mem_cons_self|apply List.mem_cons_of_mem)) (hc:(cs.drop o).take sz=[v0,Z,M,v3,v4,v5,v6]:=by exact rfl) (hl:[v0,Z,M,v3,v4,v5,v6].length=sz:=by exact rfl) (hN:Nat.blt d N.n=true:=by exact rfl):G P κ N ops Q (⟨some d,.load T x,ty,ps,af,none⟩::rest) L I:=Gr (Runs.loads hT hx hb hc hl) h hN
theorem Es2_2{o E:Nat}{c0 c1 e0 e1:Value}{I':List Item}(hT:tyF P T=some (sz,ag,by',z))(hx:er L x=some (.pointer (some ⟨b,o,none⟩)):=by exact rfl)(hy:er L y=some v:=by exact rfl)
  (hv:cellsOf v=[M,Z]:=by exact rfl) (hl:[M,Z].length=sz:=by exact rfl) (h1:AllOne [M,Z]:=by repeat (first|exact AllOne.nil|refine AllOne.cons rfl ?_)) (aa:At I (e8 b [c0,c1] E) (e8 b [e0,e1] E) I':=by repeat (first|exact At.head _ _ _|apply At.tail)) (hr:o+[M,Z].length<=[c0,c1].length:=by exact Nat.le_of_ble_eq_true rfl) (ab:[c0,c1].take o++[M,Z]++[c0,c1].drop (o+[M,Z].length)=[e0,e1]:=by exact rfl) :
  Eff P κ N Q ⟨none,.store T x y,ty,ps,af,gd⟩ L I λL' I''=>L'=L/\I''=I':=Eff.st hT hx hy hv hl h1 aa hr ab
theorem Es6_6{o E:Nat}{c0 c1 c2 c3 c4 c5 e0 e1 e2 e3 e4 e5:Value}{I':List Item}(hT:tyF P T=some (sz,ag,by',z))(hx:er L x=some (.pointer (some ⟨b,o,none⟩)):=by exact rfl)(hy:er L y=some v:=by exact rfl)
  (hv:cellsOf v=[v0,Z,M,v3,v4,v5]:=by exact rfl) (hl:[v0,Z,M,v3,v4,v5].length=sz:=by exact rfl) (h1:AllOne [v0,Z,M,v3,v4,v5]:=by repeat (first|exact AllOne.nil|refine AllOne.cons rfl ?_)) (aa:At I (e8 b [c0,c1,c2,c3,c4,c5] E) (e8 b [e0,e1,e2,e3,e4,e5] E) I':=by repeat (first|exact At.head _ _ _|apply At.tail)) (hr:o+[v0,Z,M,v3,v4,v5].length<=[c0,c1,c2,c3,c4,c5].length:=by exact Nat.le_of_ble_eq_true rfl) (ab:[c0,c1,c2,c3,c4,c5].take o++[v0,Z,M,v3,v4,v5]++[c0,c1,c2,c3,c4,c5].drop (o+[v0,Z,M,v3,v4,v5].length)=[e0,e1,e2,e3,e4,e5]:=by exact rfl) :
  Eff P κ N Q ⟨none,.store T x y,ty,ps,af,gd⟩ L I λL' I''=>L'=L/\I''=I':=Eff.st hT hx hy hv hl h1 aa hr ab
theorem Es2_1{o E:Nat}{M c1 e0 e1:Value}{I':List Item}(hT:tyF P T=some (sz,ag,by',z))(hx:er L x=some (.pointer (some ⟨b,o,none⟩)):=by exact rfl)(hy:er L y=some v:=by exact rfl)
  (hv:cellsOf v=[Z]:=by exact rfl) (hl:[Z].length=sz:=by exact rfl) (h1:AllOne [Z]:=by repeat (first|exact AllOne.nil|refine AllOne.cons rfl ?_)) (aa:At I (e8 b [M,c1] E) (e8 b [e0,e1] E) I':=by repeat (first|exact At.head _ _ _|apply At.tail)) (hr:o+[Z].length<=[M,c1].length:=by exact Nat.le_of_ble_eq_true rfl) (ab:[M,c1].take o++[Z]++[M,c1].drop (o+[Z].length)=[e0,e1]:=by exact rfl) :
  Eff P κ N Q ⟨none,.store T x y,ty,ps,af,gd⟩ L I λL' I''=>L'=L/\I''=I':=Eff.st hT hx hy hv hl h1 aa hr ab
theorem Es7_1{o E:Nat}{c0 c1 c2 c3 c4 c5 M e0 e1 e2 e3 e4 e5 e6:Value}{I':List Item}(hT:tyF P T=some (sz,ag,by',z))(hx:er L x=some (.pointer (some ⟨b,o,none⟩)):=by exact rfl)(hy:er L y=some v:=by exact rfl)
  (hv:cellsOf v=[Z]:=by exact rfl) (hl:[Z].length=sz:=by exact rfl) (h1:AllOne [Z]:=by repeat (first|exact AllOne.nil|refine AllOne.cons rfl ?_)) (aa:At I (e8 b [c0,c1,c2,c3,c4,c5,M] E) (e8 b [e0,e1,e2,e3,e4,e5,e6] E) I':=by repeat (first|exact At.head _ _ _|apply At.tail)) (hr:o+[Z].length<=[c0,c1,c2,c3,c4,c5,M].length:=by exact Nat.le_of_ble_eq_true rfl) (ab:[c0,c1,c2,c3,c4,c5,M].take o++[Z]++[c0,c1,c2,c3,c4,c5,M].drop (o+[Z].length)=[e0,e1,e2,e3,e4,e5,e6]:=by exact rfl) :
  Eff P κ N Q ⟨none,.store T x y,ty,ps,af,gd⟩ L I λL' I''=>L'=L/\I''=I':=Eff.st hT hx hy hv hl h1 aa hr ab
theorem Es5_5{o E:Nat}{c0 c1 c2 c3 c4 e0 e1 e2 e3 e4:Value}{I':List Item}(hT:tyF P T=some (sz,ag,by',z))(hx:er L x=some (.pointer (some ⟨b,o,none⟩)):=by exact rfl)(hy:er L y=some v:=by exact rfl)
  (hv:cellsOf v=[v0,Z,M,v3,v4]:=by exact rfl) (hl:[v0,Z,M,v3,v4].length=sz:=by exact rfl) (h1:AllOne [v0,Z,M,v3,v4]:=by repeat (first|exact AllOne.nil|refine AllOne.cons rfl ?_)) (aa:At I (e8 b [c0,c1,c2,c3,c4] E) (e8 b [e0,e1,e2,e3,e4] E) I':=by repeat (first|exact At.head _ _ _|apply At.tail)) (hr:o+[v0,Z,M,v3,v4].length<=[c0,c1,c2,c3,c4].length:=by exact Nat.le_of_ble_eq_true rfl) (ab:[c0,c1,c2,c3,c4].take o++[v0,Z,M,v3,v4]++[c0,c1,c2,c3,c4].drop (o+[v0,Z,M,v3,v4].length)=[e0,e1,e2,e3,e4]:=by exact rfl) :
  Eff P κ N Q ⟨none,.store T x y,ty,ps,af,gd⟩ L I λL' I''=>L'=L/\I''=I':=Eff.st hT hx hy hv hl h1 aa hr ab
theorem Es7_7{o E:Nat}{c0 c1 c2 c3 c4 c5 c6 e0 e1 e2 e3 e4 e5 e6:Value}{I':List Item}(hT:tyF P T=some (sz,ag,by',z))(hx:er L x=some (.pointer (some ⟨b,o,none⟩)):=by exact rfl)(hy:er L y=some v:=by exact rfl)
  (hv:cellsOf v=[v0,M,v2,v3,v4,Z,v6]:=by exact rfl) (hl:[v0,M,v2,v3,v4,Z,v6].length=sz:=by exact rfl) (h1:AllOne [v0,M,v2,v3,v4,Z,v6]:=by repeat (first|exact AllOne.nil|refine AllOne.cons rfl ?_)) (aa:At I (e8 b [c0,c1,c2,c3,c4,c5,c6] E) (e8 b [e0,e1,e2,e3,e4,e5,e6] E) I':=by repeat (first|exact At.head _ _ _|apply At.tail)) (hr:o+[v0,M,v2,v3,v4,Z,v6].length<=[c0,c1,c2,c3,c4,c5,c6].length:=by exact Nat.le_of_ble_eq_true rfl) (ab:[c0,c1,c2,c3,c4,c5,c6].take o++[v0,M,v2,v3,v4,Z,v6]++[c0,c1,c2,c3,c4,c5,c6].drop (o+[v0,M,v2,v3,v4,Z,v6].length)=[e0,e1,e2,e3,e4,e5,e6]:=by exact rfl) :
  Eff P κ N Q ⟨none,.store T x y,ty,ps,af,gd⟩ L I λL' I''=>L'=L/\I''=I':=Eff.st hT hx hy hv hl h1 aa hr ab
theorem Es3_3{o E:Nat}{c0 c1 c2 e0 e1 e2:Value}{I':List Item}(hT:tyF P T=some (sz,ag,by',z))(hx:er L x=some (.pointer (some ⟨b,o,none⟩)):=by exact rfl)(hy:er L y=some v:=by exact rfl)
  (hv:cellsOf v=[v0,Z,M]:=by exact rfl) (hl:[v0,Z,M].length=sz:=by exact rfl) (h1:AllOne [v0,Z,M]:=by repeat (first|exact AllOne.nil|refine AllOne.cons rfl ?_)) (aa:At I (e8 b [c0,c1,c2] E) (e8 b [e0,e1,e2] E) I':=by repeat (first|exact At.head _ _ _|apply At.tail)) (hr:o+[v0,Z,M].length<=[c0,c1,c2].length:=by exact Nat.le_of_ble_eq_true rfl) (ab:[c0,c1,c2].take o++[v0,Z,M]++[c0,c1,c2].drop (o+[v0,Z,M].length)=[e0,e1,e2]:=by exact rfl) :
  Eff P κ N Q ⟨none,.store T x y,ty,ps,af,gd⟩ L I λL' I''=>L'=L/\I''=I':=Eff.st hT hx hy hv hl h1 aa hr ab
theorem Es4_4{o E:Nat}{c0 c1 c2 c3 e0 e1 e2 e3:Value}{I':List Item}(hT:tyF P T=some (sz,ag,by',z))(hx:er L x=some (.pointer (some ⟨b,o,none⟩)):=by exact rfl)(hy:er L y=some v:=by exact rfl)
  (hv:cellsOf v=[v0,Z,M,v3]:=by exact rfl) (hl:[v0,Z,M,v3].length=sz:=by exact rfl) (h1:AllOne [v0,Z,M,v3]:=by repeat (first|exact AllOne.nil|refine AllOne.cons rfl ?_)) (aa:At I (e8 b [c0,c1,c2,c3] E) (e8 b [e0,e1,e2,e3] E) I':=by repeat (first|exact At.head _ _ _|apply At.tail)) (hr:o+[v0,Z,M,v3].length<=[c0,c1,c2,c3].length:=by exact Nat.le_of_ble_eq_true rfl) (ab:[c0,c1,c2,c3].take o++[v0,Z,M,v3]++[c0,c1,c2,c3].drop (o+[v0,Z,M,v3].length)=[e0,e1,e2,e3]:=by exact rfl) :
  Eff P κ N Q ⟨none,.store T x y,ty,ps,af,gd⟩ L I λL' I''=>L'=L/\I''=I':=Eff.st hT hx hy hv hl h1 aa hr ab
theorem Ge0(Z:Eff P κ N Q o L I (λL' I'=>L'=L1/\I'=I1))(h:G P κ N ops Q rest L1 I1)(M:Wanted N ops o L:=by first|exact Wanted.plain rfl|exact Wanted.on rfl rfl rfl):G P κ N ops Q (o::rest) L I:=G.eff M Z (by rintro _ _ ⟨rfl,rfl⟩;exact h)
theorem Se0{Z:Array Bool}(hi:ops[i]? = some o)(M:Eff P κ N Q o L I (λL' I'=>L'=L1/\I'=I1))(h:D P κ N ops Q J stop fuel (Z.setIfInBounds i true) L1 I1)(hw:Wanted N ops o L:=by first|exact Wanted.plain rfl|exact Wanted.on rfl rfl rfl)(hf:Fit κ I1 J:=by first|((repeat (first|exact Fit.refl _|apply Fit.tail|exact Fit.appR _ _|apply Fit.appL));done)|(refine Fit.of_sublist ?_;(repeat (first|exact List.Sublist.refl _|apply List.Sublist.cons_cons|apply List.Sublist.cons|exact List.sublist_append_right _ _));done)|(refine Fit.sp ?_;(repeat (first|exact Sp.refl _|refine Sp.pick (by repeat (first|exact Pick.head _ _|apply Pick.tail|apply Pick.app)) ?_|apply Sp.skip|exact Sp.appR _ _));done)):Step P κ N ops Q J stop fuel Z L I i:=Step.eff hi hw M (by rintro _ _ ⟨rfl,rfl⟩;exact ⟨hf,h⟩)
theorem Ge1{τ:Type}{L1:τ->Env}{I1:τ->List Item}(Z:Eff P κ N Q o L I (λL' I'=>∃b,L'=L1 b/\I'=I1 b))(h:∀b,G P κ N ops Q rest (L1 b) (I1 b))(M:Wanted N ops o L:=by first|exact Wanted.plain rfl|exact Wanted.on rfl rfl rfl):G P κ N ops Q (o::rest) L I:=G.eff M Z (by rintro _ _ ⟨b,rfl,rfl⟩;exact h b)
theorem Se1{Z:Array Bool}{τ:Type}{L1:τ->Env}{I1:τ->List Item}(hi:ops[i]? = some o)(M:Eff P κ N Q o L I (λL' I'=>∃b,L'=L1 b/\I'=I1 b))(h:∀b,D P κ N ops Q J stop fuel (Z.setIfInBounds i true) (L1 b) (I1 b))(hw:Wanted N ops o L:=by first|exact Wanted.plain rfl|exact Wanted.on rfl rfl rfl)(hf:∀b,Fit κ (I1 b) J:=by intros;first|((repeat (first|exact Fit.refl _|apply Fit.tail|exact Fit.appR _ _|apply Fit.appL));done)|(refine Fit.of_sublist ?_;(repeat (first|exact List.Sublist.refl _|apply List.Sublist.cons_cons|apply List.Sublist.cons|exact List.sublist_append_right _ _));done)|(refine Fit.sp ?_;(repeat (first|exact Sp.refl _|refine Sp.pick (by repeat (first|exact Pick.head _ _|apply Pick.tail|apply Pick.app)) ?_|apply Sp.skip|exact Sp.appR _ _));done)):Step P κ N ops Q J stop fuel Z L I i:=Step.eff hi hw M (by rintro _ _ ⟨b,rfl,rfl⟩;exact ⟨hf b,h b⟩)
theorem Ge2{τ Z:Type}{L1:τ->Z->Env}{I1:τ->Z->List Item}(M:Eff P κ N Q o L I (λL' I'=>∃b c,L'=L1 b c/\I'=I1 b c))(h:∀b c,G P κ N ops Q rest (L1 b c) (I1 b c))(hw:Wanted N ops o L:=by first|exact Wanted.plain rfl|exact Wanted.on rfl rfl rfl):G P κ N ops Q (o::rest) L I:=G.eff hw M (by rintro _ _ ⟨b,c,rfl,rfl⟩;exact h b c)
theorem Se2{Z:Array Bool}{τ M:Type}{L1:τ->M->Env}{I1:τ->M->List Item}(hi:ops[i]? = some o)(he:Eff P κ N Q o L I (λL' I'=>∃b c,L'=L1 b c/\I'=I1 b c))(h:∀b c,D P κ N ops Q J stop fuel (Z.setIfInBounds i true) (L1 b c) (I1 b c))(hw:Wanted N ops o L:=by first|exact Wanted.plain rfl|exact Wanted.on rfl rfl rfl)(hf:∀b c,Fit κ (I1 b c) J:=by intros;first|((repeat (first|exact Fit.refl _|apply Fit.tail|exact Fit.appR _ _|apply Fit.appL));done)|(refine Fit.of_sublist ?_;(repeat (first|exact List.Sublist.refl _|apply List.Sublist.cons_cons|apply List.Sublist.cons|exact List.sublist_append_right _ _));done)|(refine Fit.sp ?_;(repeat (first|exact Sp.refl _|refine Sp.pick (by repeat (first|exact Pick.head _ _|apply Pick.tail|apply Pick.app)) ?_|apply Sp.skip|exact Sp.appR _ _));done)):Step P κ N ops Q J stop fuel Z L I i:=Step.eff hi hw he (by rintro _ _ ⟨b,c,rfl,rfl⟩;exact ⟨hf b c,h b c⟩)
theorem Gc0(M:Eff P κ N Q o L I (λL' I'=>∃v J',(v=Z/\I1=J')/\L'=(dd,v)::L/\J'=I'))(h:G P κ N ops Q rest ((dd,Z)::L) I1)(hw:Wanted N ops o L:=by first|exact Wanted.plain rfl|exact Wanted.on rfl rfl rfl):G P κ N ops Q (o::rest) L I:=G.eff hw M (by rintro _ _ ⟨_,_,⟨rfl,rfl⟩,rfl,rfl⟩;exact h)
theorem Sc0{Z:Array Bool}(hi:ops[i]? = some o)(he:Eff P κ N Q o L I (λL' I'=>∃v J',(v=M/\I1=J')/\L'=(dd,v)::L/\J'=I'))(h:D P κ N ops Q J stop fuel (Z.setIfInBounds i true) ((dd,M)::L) I1)(hw:Wanted N ops o L:=by first|exact Wanted.plain rfl|exact Wanted.on rfl rfl rfl)(hf:Fit κ I1 J:=by first|((repeat (first|exact Fit.refl _|apply Fit.tail|exact Fit.appR _ _|apply Fit.appL));done)|(refine Fit.of_sublist ?_;(repeat (first|exact List.Sublist.refl _|apply List.Sublist.cons_cons|apply List.Sublist.cons|exact List.sublist_append_right _ _));done)|(refine Fit.sp ?_;(repeat (first|exact Sp.refl _|refine Sp.pick (by repeat (first|exact Pick.head _ _|apply Pick.tail|apply Pick.app)) ?_|apply Sp.skip|exact Sp.appR _ _));done)):Step P κ N ops Q J stop fuel Z L I i:=Step.eff hi hw he (by rintro _ _ ⟨_,_,⟨rfl,rfl⟩,rfl,rfl⟩;exact ⟨hf,h⟩)
theorem Gc1(M:Eff P κ N Q o L I (λL' I'=>∃v J',(v=Z/\J'=I1)/\L'=(dd,v)::L/\J'=I'))(h:G P κ N ops Q rest ((dd,Z)::L) I1)(hw:Wanted N ops o L:=by first|exact Wanted.plain rfl|exact Wanted.on rfl rfl rfl):G P κ N ops Q (o::rest) L I:=G.eff hw M (by rintro _ _ ⟨_,_,⟨rfl,rfl⟩,rfl,rfl⟩;exact h)
theorem Gc2{τ Z:Type}{M:τ->Z->Value}{I1:τ->Z->List Item}(he:Eff P κ N Q o L I (λL' I'=>∃v J',(∃b c,v=M b c/\J'=I1 b c)/\L'=(dd,v)::L/\J'=I'))(h:∀b c,G P κ N ops Q rest ((dd,M b c)::L) (I1 b c))(hw:Wanted N ops o L:=by first|exact Wanted.plain rfl|exact Wanted.on rfl rfl rfl):G P κ N ops Q (o::rest) L I:=G.eff hw he (by rintro _ _ ⟨_,_,⟨b,c,rfl,rfl⟩,rfl,rfl⟩;exact h b c)
theorem Sc2{Z:Array Bool}{τ M:Type}{v0:τ->M->Value}{I1:τ->M->List Item}(hi:ops[i]? = some o)(he:Eff P κ N Q o L I (λL' I'=>∃v J',(∃b c,v=v0 b c/\J'=I1 b c)/\L'=(dd,v)::L/\J'=I'))(h:∀b c,D P κ N ops Q J stop fuel (Z.setIfInBounds i true) ((dd,v0 b c)::L) (I1 b c))(hw:Wanted N ops o L:=by first|exact Wanted.plain rfl|exact Wanted.on rfl rfl rfl)(hf:∀b c,Fit κ (I1 b c) J:=by intros;first|((repeat (first|exact Fit.refl _|apply Fit.tail|exact Fit.appR _ _|apply Fit.appL));done)|(refine Fit.of_sublist ?_;(repeat (first|exact List.Sublist.refl _|apply List.Sublist.cons_cons|apply List.Sublist.cons|exact List.sublist_append_right _ _));done)|(refine Fit.sp ?_;(repeat (first|exact Sp.refl _|refine Sp.pick (by repeat (first|exact Pick.head _ _|apply Pick.tail|apply Pick.app)) ?_|apply Sp.skip|exact Sp.appR _ _));done)):Step P κ N ops Q J stop fuel Z L I i:=Step.eff hi hw he (by rintro _ _ ⟨_,_,⟨b,c,rfl,rfl⟩,rfl,rfl⟩;exact ⟨hf b c,h b c⟩)
theorem Dz{Z:Array Bool}(h:V κ N Q .normal L I)(M:Region.ready .any ops Z=[]:=by kernel_rfl):D P κ N ops Q J stop fuel Z L I:=D.done M h
theorem Ce0{f:FuncId}{Z:Func}{c:Code}{Post:Value->List Item->Prop}(hf:P.funcs[f]? = some Z)(hb:Z.body=some c)(hN:Z.ntmps=n)(h:W P κ ⟨n,[]⟩ c (bodyPost P Z (RetR κ Post)) [] I)(M:Nat.ble 0 n=true:=by exact rfl):eu P κ f [] I Post:=eu.enter hf hb hN M rfl h
theorem Ce1{f:FuncId}{Z:Func}{c:Code}{Post:Value->List Item->Prop}(hf:P.funcs[f]? = some Z)(hb:Z.body=some c)(hN:Z.ntmps=n)(h:W P κ ⟨n,[]⟩ c (bodyPost P Z (RetR κ Post)) [(0,M)] I)(hl:Nat.ble 1 n=true:=by exact rfl):eu P κ f [M] I Post:=eu.enter hf hb hN hl rfl h
theorem Ce2{f:FuncId}{Z:Func}{c:Code}{Post:Value->List Item->Prop}(hf:P.funcs[f]? = some Z)(hb:Z.body=some c)(hN:Z.ntmps=n)(h:W P κ ⟨n,[]⟩ c (bodyPost P Z (RetR κ Post)) [(0,v0),(1,M)] I)(hl:Nat.ble 2 n=true:=by exact rfl):eu P κ f [v0,M] I Post:=eu.enter hf hb hN hl rfl h
theorem Ce3{f:FuncId}{Z:Func}{c:Code}{Post:Value->List Item->Prop}(hf:P.funcs[f]? = some Z)(hb:Z.body=some c)(hN:Z.ntmps=n)(h:W P κ ⟨n,[]⟩ c (bodyPost P Z (RetR κ Post)) [(0,v0),(1,M),(2,v2)] I)(hl:Nat.ble 3 n=true:=by exact rfl):eu P κ f [v0,M,v2] I Post:=eu.enter hf hb hN hl rfl h
theorem Ce4{f:FuncId}{Z:Func}{c:Code}{Post:Value->List Item->Prop}(hf:P.funcs[f]? = some Z)(hb:Z.body=some c)(hN:Z.ntmps=n)(h:W P κ ⟨n,[]⟩ c (bodyPost P Z (RetR κ Post)) [(0,v0),(1,v1),(2,v2),(3,M)] I)(hl:Nat.ble 4 n=true:=by exact rfl):eu P κ f [v0,v1,v2,M] I Post:=eu.enter hf hb hN hl rfl h
theorem Ce5{f:FuncId}{Z:Func}{c:Code}{Post:Value->List Item->Prop}(hf:P.funcs[f]? = some Z)(hb:Z.body=some c)(hN:Z.ntmps=n)(h:W P κ ⟨n,[]⟩ c (bodyPost P Z (RetR κ Post)) [(0,v0),(1,v1),(2,v2),(3,M),(4,v4)] I)(hl:Nat.ble 5 n=true:=by exact rfl):eu P κ f [v0,v1,v2,M,v4] I Post:=eu.enter hf hb hN hl rfl h
theorem Ce6{f:FuncId}{Z:Func}{c:Code}{Post:Value->List Item->Prop}(hf:P.funcs[f]? = some Z)(hb:Z.body=some c)(hN:Z.ntmps=n)(h:W P κ ⟨n,[]⟩ c (bodyPost P Z (RetR κ Post)) [(0,v0),(1,v1),(2,v2),(3,M),(4,v4),(5,v5)] I)(hl:Nat.ble 6 n=true:=by exact rfl):eu P κ f [v0,v1,v2,M,v4,v5] I Post:=eu.enter hf hb hN hl rfl h
theorem S1(k1:Nat)(M:look L k1=some Z:=by exact rfl):Sub L [(k1,Z)]:= .cons M .nil
theorem S2(k1 k2:Nat)(h1:look L k1=some Z:=by exact rfl)(h2:look L k2=some M:=by exact rfl):Sub L [(k1,Z),(k2,M)]:= .cons h1 (.cons h2 .nil)
theorem S3(k1 k2 M:Nat)(h1:look L k1=some v1:=by exact rfl)(h2:look L k2=some v2:=by exact rfl)(h3:look L M=some Z:=by exact rfl):Sub L [(k1,v1),(k2,v2),(M,Z)]:= .cons h1 (.cons h2 (.cons h3 .nil))
theorem S4(k1 k2 M k4:Nat)(h1:look L k1=some v1:=by exact rfl)(h2:look L k2=some v2:=by exact rfl)(h3:look L M=some Z:=by exact rfl)(h4:look L k4=some v4:=by exact rfl):Sub L [(k1,v1),(k2,v2),(M,Z),(k4,v4)]:= .cons h1 (.cons h2 (.cons h3 (.cons h4 .nil)))
theorem S5(k1 k2 M k4 k5:Nat)(h1:look L k1=some v1:=by exact rfl)(h2:look L k2=some v2:=by exact rfl)(h3:look L M=some Z:=by exact rfl)(h4:look L k4=some v4:=by exact rfl)(h5:look L k5=some v5:=by exact rfl):Sub L [(k1,v1),(k2,v2),(M,Z),(k4,v4),(k5,v5)]:= .cons h1 (.cons h2 (.cons h3 (.cons h4 (.cons h5 .nil))))
theorem S6(k1 k2 M k4 k5 k6:Nat)(h1:look L k1=some v1:=by exact rfl)(h2:look L k2=some v2:=by exact rfl)(h3:look L M=some Z:=by exact rfl)(h4:look L k4=some v4:=by exact rfl)(h5:look L k5=some v5:=by exact rfl)(h6:look L k6=some v6:=by exact rfl):Sub L [(k1,v1),(k2,v2),(M,Z),(k4,v4),(k5,v5),(k6,v6)]:= .cons h1 (.cons h2 (.cons h3 (.cons h4 (.cons h5 (.cons h6 .nil)))))
theorem S7(k1 k2 k3 k4 k5 k6 k7:Nat)(h1:look L k1=some M:=by exact rfl)(h2:look L k2=some v2:=by exact rfl)(h3:look L k3=some v3:=by exact rfl)(h4:look L k4=some v4:=by exact rfl)(h5:look L k5=some v5:=by exact rfl)(h6:look L k6=some v6:=by exact rfl)(h7:look L k7=some Z:=by exact rfl):Sub L [(k1,M),(k2,v2),(k3,v3),(k4,v4),(k5,v5),(k6,v6),(k7,Z)]:= .cons h1 (.cons h2 (.cons h3 (.cons h4 (.cons h5 (.cons h6 (.cons h7 .nil))))))
theorem S8(k1 k2 k3 k4 k5 k6 k7 k8:Nat)(h1:look L k1=some M:=by exact rfl)(h2:look L k2=some v2:=by exact rfl)(h3:look L k3=some v3:=by exact rfl)(h4:look L k4=some v4:=by exact rfl)(h5:look L k5=some v5:=by exact rfl)(h6:look L k6=some v6:=by exact rfl)(h7:look L k7=some Z:=by exact rfl)(h8:look L k8=some v8:=by exact rfl):Sub L [(k1,M),(k2,v2),(k3,v3),(k4,v4),(k5,v5),(k6,v6),(k7,Z),(k8,v8)]:= .cons h1 (.cons h2 (.cons h3 (.cons h4 (.cons h5 (.cons h6 (.cons h7 (.cons h8 .nil)))))))
theorem S9(k1 k2 k3 k4 k5 k6 k7 k8 k9:Nat)(h1:look L k1=some M:=by exact rfl)(h2:look L k2=some v2:=by exact rfl)(h3:look L k3=some v3:=by exact rfl)(h4:look L k4=some v4:=by exact rfl)(h5:look L k5=some v5:=by exact rfl)(h6:look L k6=some v6:=by exact rfl)(h7:look L k7=some Z:=by exact rfl)(h8:look L k8=some v8:=by exact rfl)(h9:look L k9=some v9:=by exact rfl):Sub L [(k1,M),(k2,v2),(k3,v3),(k4,v4),(k5,v5),(k6,v6),(k7,Z),(k8,v8),(k9,v9)]:= .cons h1 (.cons h2 (.cons h3 (.cons h4 (.cons h5 (.cons h6 (.cons h7 (.cons h8 (.cons h9 .nil))))))))
theorem S10(k1 k2 k3 k4 k5 k6 k7 k8 k9 M:Nat)(h1:look L k1=some v1:=by exact rfl)(h2:look L k2=some v2:=by exact rfl)(h3:look L k3=some v3:=by exact rfl)(h4:look L k4=some v4:=by exact rfl)(h5:look L k5=some v5:=by exact rfl)(h6:look L k6=some v6:=by exact rfl)(h7:look L k7=some v7:=by exact rfl)(h8:look L k8=some v8:=by exact rfl)(h9:look L k9=some v9:=by exact rfl)(aa:look L M=some Z:=by exact rfl):Sub L [(k1,v1),(k2,v2),(k3,v3),(k4,v4),(k5,v5),(k6,v6),(k7,v7),(k8,v8),(k9,v9),(M,Z)]:= .cons h1 (.cons h2 (.cons h3 (.cons h4 (.cons h5 (.cons h6 (.cons h7 (.cons h8 (.cons h9 (.cons aa .nil)))))))))
theorem S11(k1 k2 k3 k4 k5 k6 k7 k8 k9 aa M:Nat)(h1:look L k1=some v1:=by exact rfl)(h2:look L k2=some v2:=by exact rfl)(h3:look L k3=some v3:=by exact rfl)(h4:look L k4=some v4:=by exact rfl)(h5:look L k5=some v5:=by exact rfl)(h6:look L k6=some v6:=by exact rfl)(h7:look L k7=some v7:=by exact rfl)(h8:look L k8=some v8:=by exact rfl)(h9:look L k9=some v9:=by exact rfl)(ae:look L aa=some Z:=by exact rfl)(ad:look L M=some ab:=by exact rfl):Sub L [(k1,v1),(k2,v2),(k3,v3),(k4,v4),(k5,v5),(k6,v6),(k7,v7),(k8,v8),(k9,v9),(aa,Z),(M,ab)]:= .cons h1 (.cons h2 (.cons h3 (.cons h4 (.cons h5 (.cons h6 (.cons h7 (.cons h8 (.cons h9 (.cons ae (.cons ad .nil))))))))))
theorem S12(k1 k2 k3 k4 k5 k6 k7 k8 k9 aa M ab:Nat)(h1:look L k1=some v1:=by exact rfl)(h2:look L k2=some v2:=by exact rfl)(h3:look L k3=some v3:=by exact rfl)(h4:look L k4=some v4:=by exact rfl)(h5:look L k5=some v5:=by exact rfl)(h6:look L k6=some v6:=by exact rfl)(h7:look L k7=some v7:=by exact rfl)(h8:look L k8=some v8:=by exact rfl)(h9:look L k9=some v9:=by exact rfl)(aj:look L aa=some Z:=by exact rfl)(ai:look L M=some ad:=by exact rfl)(ah:look L ab=some ae:=by exact rfl):Sub L [(k1,v1),(k2,v2),(k3,v3),(k4,v4),(k5,v5),(k6,v6),(k7,v7),(k8,v8),(k9,v9),(aa,Z),(M,ad),(ab,ae)]:= .cons h1 (.cons h2 (.cons h3 (.cons h4 (.cons h5 (.cons h6 (.cons h7 (.cons h8 (.cons h9 (.cons aj (.cons ai (.cons ah .nil)))))))))))
theorem S13(k1 k2 k3 k4 k5 k6 k7 k8 k9 ae M ah ad:Nat)(h1:look L k1=some v1:=by exact rfl)(h2:look L k2=some v2:=by exact rfl)(h3:look L k3=some v3:=by exact rfl)(h4:look L k4=some v4:=by exact rfl)(h5:look L k5=some v5:=by exact rfl)(h6:look L k6=some v6:=by exact rfl)(h7:look L k7=some v7:=by exact rfl)(h8:look L k8=some v8:=by exact rfl)(h9:look L k9=some v9:=by exact rfl)(an:look L ae=some ab:=by exact rfl)(ao:look L M=some aa:=by exact rfl)(ak:look L ah=some ai:=by exact rfl)(aj:look L ad=some Z:=by exact rfl):Sub L [(k1,v1),(k2,v2),(k3,v3),(k4,v4),(k5,v5),(k6,v6),(k7,v7),(k8,v8),(k9,v9),(ae,ab),(M,aa),(ah,ai),(ad,Z)]:= .cons h1 (.cons h2 (.cons h3 (.cons h4 (.cons h5 (.cons h6 (.cons h7 (.cons h8 (.cons h9 (.cons an (.cons ao (.cons ak (.cons aj .nil))))))))))))
theorem S14(k1 k2 k3 k4 k5 k6 k7 k8 k9 ai aa aj ah M:Nat)(h1:look L k1=some v1:=by exact rfl)(h2:look L k2=some v2:=by exact rfl)(h3:look L k3=some v3:=by exact rfl)(h4:look L k4=some v4:=by exact rfl)(h5:look L k5=some v5:=by exact rfl)(h6:look L k6=some v6:=by exact rfl)(h7:look L k7=some v7:=by exact rfl)(h8:look L k8=some v8:=by exact rfl)(h9:look L k9=some v9:=by exact rfl)(ar:look L ai=some ae:=by exact rfl)(aq:look L aa=some ab:=by exact rfl)(ao:look L aj=some ak:=by exact rfl)(an:look L ah=some Z:=by exact rfl)(ap:look L M=some ad:=by exact rfl):Sub L [(k1,v1),(k2,v2),(k3,v3),(k4,v4),(k5,v5),(k6,v6),(k7,v7),(k8,v8),(k9,v9),(ai,ae),(aa,ab),(aj,ak),(ah,Z),(M,ad)]:= .cons h1 (.cons h2 (.cons h3 (.cons h4 (.cons h5 (.cons h6 (.cons h7 (.cons h8 (.cons h9 (.cons ar (.cons aq (.cons ao (.cons an (.cons ap .nil)))))))))))))
theorem S15{ao:Value}(k1 k2 k3 k4 k5 k6 k7 k8 k9 ak ad an aj ab Z:Nat)(h1:look L k1=some v1)(h2:look L k2=some v2)(h3:look L k3=some v3)(h4:look L k4=some v4)(h5:look L k5=some v5)(h6:look L k6=some v6)(h7:look L k7=some v7)(h8:look L k8=some v8)(h9:look L k9=some v9)(aw:look L ak=some ai)(av:look L ad=some ae)(aq:look L an=some ao)(ap:look L aj=some aa)(au:look L ab=some ah)(ar:look L Z=some M):Sub L [(k1,v1),(k2,v2),(k3,v3),(k4,v4),(k5,v5),(k6,v6),(k7,v7),(k8,v8),(k9,v9),(ak,ai),(ad,ae),(an,ao),(aj,aa),(ab,ah),(Z,M)]:= .cons h1 (.cons h2 (.cons h3 (.cons h4 (.cons h5 (.cons h6 (.cons h7 (.cons h8 (.cons h9 (.cons aw (.cons av (.cons aq (.cons ap (.cons au (.cons ar .nil))))))))))))))
theorem S16{aj:Value}(k1 k2 k3 k4 k5 k6 k7 k8 k9 ao ae ap an ad M ai:Nat)(h1:look L k1=some v1)(h2:look L k2=some v2)(h3:look L k3=some v3)(h4:look L k4=some v4)(h5:look L k5=some v5)(h6:look L k6=some v6)(h7:look L k7=some v7)(h8:look L k8=some v8)(h9:look L k9=some v9)(az:look L ao=some ak)(ay:look L ae=some ah)(au:look L ap=some aq)(ar:look L an=some ab)(aw:look L ad=some aj)(av:look L M=some aa)(ax:look L ai=some Z):Sub L [(k1,v1),(k2,v2),(k3,v3),(k4,v4),(k5,v5),(k6,v6),(k7,v7),(k8,v8),(k9,v9),(ao,ak),(ae,ah),(ap,aq),(an,ab),(ad,aj),(M,aa),(ai,Z)]:= .cons h1 (.cons h2 (.cons h3 (.cons h4 (.cons h5 (.cons h6 (.cons h7 (.cons h8 (.cons h9 (.cons az (.cons ay (.cons au (.cons ar (.cons aw (.cons av (.cons ax .nil)))))))))))))))
theorem S17{an au:Value}(k1 k2 k3 k4 k5 k6 k7 k8 k9 ap ae ar ao ad M aj ah:Nat)(h1:look L k1=some v1)(h2:look L k2=some v2)(h3:look L k3=some v3)(h4:look L k4=some v4)(h5:look L k5=some v5)(h6:look L k6=some v6)(h7:look L k7=some v7)(h8:look L k8=some v8)(h9:look L k9=some v9)(a3:look L ap=some an)(a1:look L ae=some ai)(aw:look L ar=some au)(av:look L ao=some ab)(ay:look L ad=some ak)(ax:look L M=some aa)(a0:look L aj=some Z)(az:look L ah=some aq):Sub L [(k1,v1),(k2,v2),(k3,v3),(k4,v4),(k5,v5),(k6,v6),(k7,v7),(k8,v8),(k9,v9),(ap,an),(ae,ai),(ar,au),(ao,ab),(ad,ak),(M,aa),(aj,Z),(ah,aq)]:= .cons h1 (.cons h2 (.cons h3 (.cons h4 (.cons h5 (.cons h6 (.cons h7 (.cons h8 (.cons h9 (.cons a3 (.cons a1 (.cons aw (.cons av (.cons ay (.cons ax (.cons a0 (.cons az .nil))))))))))))))))
end
end Go.Sl
namespace Go.Sl
section
variable {α:Type}[Inhabited α]
theorem at_nat(xs:List α)(k:Nat):e_ xs k=xs.getD k default:=by simp [e_]
theorem at_get(xs:List α)(k:Nat)(h:k<xs.length):e_ xs k=xs[k]:=by simp [e_,h]
theorem at_mem{xs:List α}{i:Int}(Z:0<=i)(h:i<xs.length):e_ xs i∈xs:=by
 rw [at_eq Z h];exact List.getElem_mem _
theorem take_at(xs:List α)(k:Nat)(h:k<xs.length):xs.take (k+1)=xs.take k++[e_ xs k]:=by
 rw [at_get xs k h,List.take_succ_eq_append_getElem h]
theorem mem_at{xs:List α}{x:α}(h:x∈xs):∃k,k<xs.length/\e_ xs k=x:=by
 obtain ⟨k,Z,M⟩:=List.mem_iff_getElem.1 h
 exact ⟨k,Z,by rw [at_get xs k Z,M]⟩
theorem not_mem_at{xs:List α}{x:α}{k:Nat}(h:∀j,j<k->e_ xs j≠x)(hk:xs.length<=k):x∉xs:=λM=>by
 obtain ⟨j,hj,Z⟩:=mem_at M
 exact h j (by omega) Z
theorem at_set(xs:List α)(i j:Int)(v:α)(hi:0<=i)(Z:0<=j)(M:i<xs.length):e_ (xs.set i.toNat v) j=if i=j then v else e_ xs j:=by
 unfold e_
 by_cases h:i=j
 ·subst h
  have:i.toNat<xs.length:=by omega
  simp [List.getD_eq_getElem?_getD,this]
 have:i.toNat≠j.toNat:=by omega
 simp [List.getD_eq_getElem?_getD,h,List.getElem?_set_ne this]
theorem at_rep(n:Nat)(i:Int)(d:α)(Z:0<=i)(h:i<n):e_ (List.replicate n d) i=d:=by
 rw [at_eq Z (by simpa using h)];simp
theorem drop_at(xs:List α)(k:Nat)(h:k<xs.length):xs.drop k=e_ xs k::xs.drop (k+1):=by
 rw [at_get xs k h,List.drop_eq_getElem_cons h]
end
theorem all_succ{p:Nat->Prop}{k:Nat}(h:∀j,j<k->p j)(hk:p k):∀j,j<k+1->p j:=λj M=>by
 rcases Nat.lt_succ_iff_lt_or_eq.1 M with Z|Z
 ·exact h j Z
 subst Z;exact hk
theorem all_zero{p:Nat->Prop}:∀j,j<0->p j:=λj Z=>absurd Z (Nat.not_lt_zero j)
end Go.Sl
namespace Go.Sl
structure LinO {α:Type} (lt:α->α->Prop):Prop where
 irr:∀a,¬lt a a
 tr:∀a b c,lt a b->lt b c->lt a c
 tri:∀a b,lt a b\/a=b\/lt b a
section
variable {α:Type}{lt:α->α->Prop}
theorem LinO.asymm(h:LinO lt){a b:α}(Z:lt a b):¬lt b a:=λM=>h.irr a (h.tr a b a Z M)
theorem LinO.ne(h:LinO lt){a b:α}(Z:lt a b):a≠b:=λe=>by subst e;exact h.irr a Z
theorem LinO.uniq(h:LinO lt):∀{l m:List α},l.Pairwise lt->m.Pairwise lt->(∀x,x∈l↔x∈m)->l=m
 |[],[],_,_,_=>rfl
 |[],y::ys,_,_,e=>absurd ((e y).2 List.mem_cons_self) (by simp)
 |x::xs,[],_,_,e=>absurd ((e x).1 List.mem_cons_self) (by simp)
 |x::xs,y::ys,hl,hm,e=>by
  obtain ⟨aa,ad⟩:=List.pairwise_cons.1 hl
  obtain ⟨Z,ab⟩:=List.pairwise_cons.1 hm
  have ae:x=y:=by
   rcases List.mem_cons.1 ((e x).1 List.mem_cons_self) with h1|h1
   ·exact h1
   rcases List.mem_cons.1 ((e y).2 List.mem_cons_self) with h2|h2
   ·exact h2.symm
   exact absurd (aa y h2)<|h.asymm<|Z x h1
  subst ae
  rw [h.uniq ad ab λz=>?_]
  constructor
  ·intro M
   rcases List.mem_cons.1 ((e z).1 (List.mem_cons_of_mem _ M)) with h1|h1
   ·subst h1;exact absurd (aa z M) (h.irr z)
   exact h1
  intro M
  rcases List.mem_cons.1 ((e z).2 (List.mem_cons_of_mem _ M)) with h1|h1
  ·subst h1;exact absurd (Z z M) (h.irr z)
  exact h1
variable [DecidableRel lt][DecidableEq α]
variable (lt) in
def insB:List α->α->List α
 |[],x=>[x]
 |y::ys,x=>if lt y x then y::insB ys x else if y=x then y::ys else x::y::ys
variable (lt) in
def sortB(l:List α):List α:=l.foldl (insB lt) []
theorem mem_insB(x y:α):∀l,y∈insB lt l x↔y=x\/y∈l
 |[]=>by simp [insB]
 |z::zs=>by
  simp only [insB]
  split
  ·simp only [List.mem_cons,mem_insB x y zs]
   constructor
   ·rintro (h|h|h)<;>simp [h]
   rintro (h|h|h)<;>simp [h]
  split
  ·rename_i e;subst e;simp
  simp
theorem LinO.insB(h:LinO lt)(x:α):∀{l:List α},l.Pairwise lt->(Sl.insB lt l x).Pairwise lt
 |[],_=>by simp [Sl.insB]
 |y::ys,hl=>by
  obtain ⟨Z,aa⟩:=List.pairwise_cons.1 hl
  simp only [Sl.insB]
  split
  ·rename_i hyx
   refine List.pairwise_cons.2 ⟨λz hz=>?_,h.insB x aa⟩
   rcases (mem_insB x z ys).1 hz with rfl|hz
   ·exact hyx
   exact Z z hz
  rename_i hyx
  split
  ·exact hl
  rename_i hne
  have M:lt x y:=by
   rcases h.tri x y with h1|h1|h1
   ·exact h1
   ·exact absurd h1.symm hne
   exact absurd h1 hyx
  refine List.pairwise_cons.2 ⟨λz hz=>?_,hl⟩
  rcases List.mem_cons.1 hz with rfl|hz
  ·exact M
  exact h.tr _ _ _ M<|Z z hz
theorem LinO.foldB(h:LinO lt):∀(l acc:List α),acc.Pairwise lt->(l.foldl (Sl.insB lt) acc).Pairwise lt
 |[],acc,ha=>ha
 |x::l,acc,ha=>h.foldB l _ (h.insB x ha)
theorem LinO.sortB(h:LinO lt)(l:List α):(Sl.sortB lt l).Pairwise lt:=h.foldB l [] List.Pairwise.nil
end
section
variable {α:Type}{lt:α->α->Prop}[Inhabited α]
theorem pairwise_at(l:List α):l.Pairwise lt↔∀i j:Nat,i<j->j<l.length->lt (e_ l i) (e_ l j):=by
 rw [List.pairwise_iff_getElem]
 constructor
 ·intro h i j Z M
  rw [at_get l i (by omega),at_get l j M];exact h i j (by omega) M Z
 intro h i j hi M Z
 have:=h i j Z M
 rwa [at_get l i (by omega),at_get l j M] at this
end
structure Pt where
 u:Int
 v:Int
deriving Inhabited,DecidableEq
instance:Enc Pt:=⟨λa=>[e7 a.u,e7 a.v],2,by omega,λ_=>rfl,λa x h=>by
 simp only [List.mem_cons,List.not_mem_nil,or_false] at h
 rcases h with rfl|rfl<;>rfl⟩
def Pt.lt(a b:Pt):Prop:=a.u<b.u\/(a.u=b.u/\a.v<b.v)
instance:DecidableRel Pt.lt:=λa b=>by unfold Pt.lt;infer_instance
theorem Pt.lin:LinO Pt.lt where
 irr a h:=by unfold Pt.lt at h;omega
 tr a b c h1 h2:=by unfold Pt.lt at *; omega
 tri a b:=by
  unfold Pt.lt
  by_cases h:a=b
  ·exact .inr<|.inl h
  have:¬(a.u=b.u/\a.v=b.v):=λe=>h (by cases a;cases b;simp_all)
  omega
theorem Pt.ext_iff'(a b:Pt):a=b↔a.u=b.u/\a.v=b.v:=by
 constructor
 ·rintro rfl;exact ⟨rfl,rfl⟩
 intro e;cases a;cases b;simp_all
def Pt.cmp(a b:Pt):Int:=if a.u<b.u then -1 else if b.u<a.u then 1 else if a.v<b.v then -1 else if b.v<a.v then 1 else 0
theorem Pt.cmp_lt(a b:Pt):Pt.cmp a b<0↔Pt.lt a b:=by unfold Pt.cmp Pt.lt;split<;>(try split)<;>(try split)<;>(try split)<;>omega
abbrev AscP(l:List Pt):Prop:=l.Pairwise Pt.lt
end Go.Sl
namespace Go.Sl
section
variable {α:Type}(bad:α->Int)(lt:α->α->Prop)[DecidableRel lt]
def prevAt[Inhabited α](xs:List α)(k:Nat):Option α:=if k=0 then none else some (e_ xs ((k:Int) - 1))
def scanL:Option α->List α->Int
 |_,[]=>0
 |none,p::ps=>if bad p≠0 then bad p else scanL (some p) ps
 |some q,p::ps=>if bad p≠0 then bad p else if lt q p then scanL (some p) ps else 5
variable {bad lt}[Inhabited α]{xs:List α}{k:Nat}
theorem prevAt_succ:prevAt xs (k+1)=some (e_ xs k):=by
 unfold prevAt;rw [if_neg (by omega)];congr 2;omega
theorem scanL_step(M:k<xs.length)(Z:bad (e_ xs k)=0)(h2:0<k->lt (e_ xs ((k:Int) - 1)) (e_ xs k)) :
  scanL bad lt (prevAt xs k) (xs.drop k)=scanL bad lt (prevAt xs<|k+1) (xs.drop<|k+1):=by
 rw [drop_at xs k M,prevAt_succ]
 unfold prevAt
 split
 ·simp only [scanL];rw [if_neg (by simp [Z])]
 simp only [scanL];rw [if_neg (by simp [Z]),if_pos<|h2<|by omega]
theorem scanL_bad(M:k<xs.length)(Z:bad (e_ xs k)≠0):scanL bad lt (prevAt xs k) (xs.drop k)=bad (e_ xs k):=by
 rw [drop_at xs k M]
 unfold prevAt
 split
 ·simp only [scanL];rw [if_pos Z]
 simp only [scanL];rw [if_pos Z]
theorem scanL_order(Z:k<xs.length)(h1:bad (e_ xs k)=0)(h0:0<k)(M:¬lt (e_ xs ((k:Int) - 1)) (e_ xs k)):scanL bad lt (prevAt xs k) (xs.drop k)=5:=by
 rw [drop_at xs k Z]
 unfold prevAt
 rw [if_neg (by omega)]
 simp only [scanL];rw [if_neg (by simp [h1]),if_neg M]
theorem scanL_end(Z:xs.length<=k):scanL bad lt (prevAt xs k) (xs.drop k)=0:=by
 rw [List.drop_eq_nil_of_le Z]
 cases prevAt xs k<;>rfl
theorem scanL_zero_some(hlt:LinO lt):∀(xs:List α) (q:α),scanL bad lt (some q) xs=0↔(∀x∈xs,bad x=0)/\(q::xs).Pairwise lt
 |[],q=>by simp [scanL]
 |p::ps,q=>by
  simp only [scanL]
  by_cases h1:bad p=0
  ·rw [if_neg (by simp [h1])]
   by_cases h2:lt q p
   ·rw [if_pos h2,scanL_zero_some hlt ps p]
    constructor
    ·rintro ⟨a,b⟩
     refine ⟨λx hx=>?_,List.pairwise_cons.2 ⟨λx hx=>?_,b⟩⟩
     ·rcases List.mem_cons.1 hx with rfl|hx
      ·exact h1
      exact a x hx
     rcases List.mem_cons.1 hx with rfl|hx
     ·exact h2
     exact hlt.tr _ _ _ h2<|(List.pairwise_cons.1 b).1 x hx
    rintro ⟨a,b⟩
    exact ⟨λx hx=>a x<|List.mem_cons_of_mem _ hx,(List.pairwise_cons.1 b).2⟩
   rw [if_neg h2]
   refine ⟨λh=>by simp at h,λh=>absurd ((List.pairwise_cons.1 h.2).1 p List.mem_cons_self) h2⟩
  rw [if_pos h1]
  exact ⟨λh=>absurd h h1,λh=>h.1 p List.mem_cons_self⟩
theorem scanL_zero(hlt:LinO lt)(xs:List α):scanL bad lt none xs=0↔(∀x∈xs,bad x=0)/\xs.Pairwise lt:=by
 cases xs with
 |nil=>simp [scanL]
 |cons p ps=>
  simp only [scanL]
  by_cases h1:bad p=0
  ·rw [if_neg (by simp [h1]),scanL_zero_some hlt]
   constructor
   ·rintro ⟨a,b⟩
    refine ⟨λx hx=>?_,b⟩
    rcases List.mem_cons.1 hx with rfl|hx
    ·exact h1
    exact a x hx
   rintro ⟨a,b⟩
   exact ⟨λx hx=>a x<|List.mem_cons_of_mem _ hx,b⟩
  rw [if_pos h1]
  exact ⟨λh=>absurd h h1,λh=>h.1 p List.mem_cons_self⟩
end
end Go.Sl
namespace Go.Sl
def sumN:Nat->(Nat->Int)->Int
 |0,_=>0
 |m+1,g=>sumN m g+g m
theorem sumN_congr:∀(m:Nat) {g h:Nat->Int},(∀k,k<m->g k=h k)->sumN m g=sumN m h
 |0,_,_,_=>rfl
 |m+1,g,h,e=>by simp only [sumN];rw [sumN_congr m (λk Z=>e k<|by omega),e m<|by omega]
theorem sumN_add:∀(m:Nat) (g h:Nat->Int),sumN m (λk=>g k+h k)=sumN m g+sumN m h
 |0,_,_=>rfl
 |m+1,g,h=>by simp only [sumN];rw [sumN_add m];omega
theorem sumN_zero:∀(m:Nat),sumN m (λ_=>0)=0
 |0=>rfl
 |m+1=>by simp only [sumN];rw [sumN_zero m];rfl
theorem sumN_eq_zero(m:Nat){g:Nat->Int}(h:∀k,k<m->g k=0):sumN m g=0:=by rw [sumN_congr m h,sumN_zero]
theorem sumN_swap(m p:Nat)(g:Nat->Nat->Int):sumN m (λi=>sumN p (λj=>g i j))=sumN p (λj=>sumN m (λi=>g i j)):=by
 induction m with
 |zero=>simp only [sumN];rw [sumN_zero]
 |succ m ih=>simp only [sumN];rw [ih,←sumN_add]
theorem sumN_at{m k:Nat}(Z:k<m)(c:Int):sumN m (λj=>if j=k then c else 0)=c:=by
 induction m with
 |zero=>omega
 |succ m ih=>
  simp only [sumN]
  by_cases h:k=m
  ·subst h
   rw [sumN_eq_zero k λj M=>by rw [if_neg (by omega)],if_pos rfl];omega
  rw [ih (by omega),if_neg<|by omega];omega
theorem sumN_upd{m k:Nat}(Z:k<m){g h:Nat->Int}(e:∀j,j<m->j≠k->h j=g j):sumN m h=sumN m g+(h k - g k):=by
 have h1:sumN m h=sumN m (λj=>g j+if j=k then h k - g k else 0):=sumN_congr m λj M=>by
  by_cases hjk:j=k
  ·subst hjk;simp;omega
  rw [if_neg hjk,e j M hjk];omega
 rw [h1,sumN_add,sumN_at Z]
end Go.Sl
namespace Go.Sl
open Go.RowKit (Below)
variable{x y:Operand}{E T by' c h n sz:Nat}{ag:Bool}{z:List Value}{U:TypeId}{m:Int}{ad:Option Addr}
def EqT(P:Program)(T:TypeId)(α:Type)[Enc α][DecidableEq α]:Prop:=
 (∀(x y:α) (w:World),(Op.equalIn 10000 T (.agg (Enc.enc x).toArray)<|.agg (Enc.enc y).toArray).run P w = .ok (decide<|x=y) w)/\P.eqGuardType P.depth T=false
section
variable {P:Program}{κ:Ctx}{N:Frm}{Q:Exit->Act->World->Prop}{L:Env}{I J:List Item}
variable {d:Option Tmp}{ty:TypeId}{ps:String}{af:Array Edge}{gd:Option (Nat×Bool)}
theorem Runs.idxArr{b o:Nat}{i:Int}(ht:P.underlying T=some (.array n E))(hE:tyF P E=some (sz,ag,by',z))(hx:er L x=some (.pointer (some ⟨b,o,none⟩)))
  (M:er L y=some (e7 i)) (h0:0<=i) (hn:i<n):Runs P κ N ⟨d,.indexAddr T x y,ty,ps,af,gd⟩ L J (.pointer<|some ⟨b,o+i.toNat*sz,none⟩):=
 λa w Z hs=>by
  simp [execOp,Z.eval hx,Z.eval M,Instr.indexAt,asIntOf,run_underlying ht,h0,hn,run_sizeOf hE,Instr.sureAddr,addr_add]
theorem Runs.eqlT{α:Type}[Enc α][DecidableEq α]{T:TypeId}{a b:α}(h:EqT P T α)(hx:er L x=some (.agg (Enc.enc a).toArray))(hy:er L y=some (.agg (Enc.enc b).toArray)) :
  Runs P κ N ⟨d,.binOp .eql T x y U,ty,ps,af,gd⟩ L J (.bool<|decide<|a=b):=λM w Z _=>by
 have hg:=run_eqGuard_agg w .eql T x y (Enc.enc a).toArray (Enc.enc b).toArray h.2
 simp only [execOp,Z.eval hx,Z.eval hy]
 simp [hg,run_eql_struct,h.1]
theorem Runs.neqT{α:Type}[Enc α][DecidableEq α]{T:TypeId}{a b:α}(h:EqT P T α)(hx:er L x=some (.agg (Enc.enc a).toArray))(hy:er L y=some (.agg (Enc.enc b).toArray)) :
  Runs P κ N ⟨d,.binOp .neq T x y U,ty,ps,af,gd⟩ L J (.bool<|decide<|a≠b):=λM w Z _=>by
 have hg:=run_eqGuard_agg w .neq T x y (Enc.enc a).toArray (Enc.enc b).toArray h.2
 simp only [execOp,Z.eval hx,Z.eval hy]
 simp [hg,run_neq_struct,h.1]
theorem Runs.quo{T:TypeId}{n:Int}(hx:er L x=some (e7 m))(M:er L y=some (e7 n))(Z:0<=m)(h1:0<n)(hr:InR m):Runs P κ N ⟨d,.binOp .quo T x y U,ty,ps,af,gd⟩ L J (e7 (m / n)):=by
 have h:=Runs.quow (P:=P) (κ:=κ) (N:=N) (J:=J) (d:=d) (ty:=ty) (ps:=ps) (af:=af) (gd:=gd) (T:=T) (U:=U) hx M (by omega)
 have e:IntKind.i64.wrap (Int.tdiv m n)=m / n:=by
  rw [Int.tdiv_eq_ediv_of_nonneg Z]
  refine InR.wrap ?_
  have h2:m / n<=m:=Int.ediv_le_self n Z
  have h3:0<=m / n:=Int.ediv_nonneg Z (by omega)
  unfold InR at *; omega
 rwa [e] at h
theorem Runs.buildArr{M aa:Nat}{ah:Bool}{z' cells:List Value}{Z:List (Nat×Operand)}{vs:List Value}(hT:tyF P T=some (sz,ag,by',z))(ht:P.underlying T=some (.array n E))(hE:tyF P E=some (M,ah,aa,z'))
  (hp:evalL L (Z.map (·.2))=some vs) (hf:Instr.fill (λi=>some (i*M,M)) z.toArray ((Z.map (·.1)).zip vs)=some cells.toArray):Runs P κ N ⟨d,.build T Z.toArray,ty,ps,af,gd⟩ L J (.agg cells.toArray):=
 λa w ha hs=>by
  obtain ⟨zv,hz,ae⟩:=run_zeroCells hT w
  have ad:Z.map (λp=>(p.1,a.eval p.2))=(Z.map (·.1)).zip vs:=by
   rw [←ha.evalL hp]
   clear hp hf
   induction Z with
   |nil=>rfl
   |cons p ps ih=>simp [ih]
  have ab:List.map (λx:Nat×Operand=>match x with |(i,x)=>(i,a.eval x)) Z=(Z.map (·.1)).zip vs:=ad
  simp only [execOp,Instr.build,Sem.run_bind,hz,Result.andThen_ok,run_underlying ht,run_sizeOf hE,List.map_toArray,ab,ae,hf,Sem.run_pure]
theorem Runs.hi3{α:Type}[Enc α]{xs:List α}{M:Operand}(ht:P.underlying T=some (.slice E))(hE:tyF P E=some (Enc.sz α,ag,by',z))(hx:er L x=some (.slice ad n c))(hy:er L y=some (e7 m))(aa:er L M=some (e7 m))(hm:m=(h:Int))
  (hv:Sl κ J (.slice ad n c) xs) (hh:h<=xs.length) (h1:0<h):Runs P κ N ⟨d,.slice T x none (some y)<|some M,ty,ps,af,gd⟩ L J (.slice ad (xs.take h).length h):=λa w ha hs=>by
 subst hm
 obtain ⟨_,_,he,_,h2,_⟩:=hv w hs
 cases he
 have hc:h<=c:=by omega
 have h3:((h:Int)<=(c:Int)):=by omega
 have Z:(Instr.sliceBounds true xs.length c none (some<|a.eval y)<|some<|a.eval M).run P w = .ok (0,h,h) w:=by
  simp [Instr.sliceBounds,ha.eval hy,ha.eval aa,Instr.sliceBound,asIntOf,hc]
 have ab:¬h=0:=by omega
 have e:ad.map (λx=>x.add 0)=ad:=by cases ad<;>simp [Addr.add]
 simp [execOp,Instr.sliceAt,Instr.slice,run_underlying ht,ha.eval hx,Z,run_sizeOf hE,ab,e,List.length_take,Nat.min_eq_left hh]
theorem Sl.take3{α:Type}[Enc α]{xs:List α}(hv:Sl κ I (.slice ad n c) xs)(hh:h<=xs.length):Sl κ I (.slice ad (xs.take h).length h) (xs.take h):=λw hs=>by
 obtain ⟨a,cap,he,h1,h2,h3,h4⟩:=hv w hs
 cases he
 refine ⟨ad,h,rfl,cells_length _,by rw [List.length_take];omega,by omega,λhc=>?_⟩
 obtain ⟨b,off,rfl,M⟩:=h4 (by omega)
 refine ⟨b,off,rfl,λj u Z=>M j u ?_⟩
 rw [cells_take,List.getElem?_take] at Z
 split at Z
 ·exact Z
 cases Z
theorem V.ret3{fn:Func}{t u s:Tmp}{v v' Z:Value}{Post:Value->List Item->Prop}(hr:fn.results = #[.tmp t,.tmp u,.tmp s])(hv:look L t=some v)(aa:look L u=some v')(M:look L s=some Z)(J:List Item)(hf:Fit κ I J)(hp:Post (.tuple #[v,v',Z]) J)(h0:N.ds=[]:=by rfl):V κ N (bodyPost P fn (RetR κ Post)) .ret L I:=
 λa w ha hs=>bodyPost_ret (v:= .tuple #[v,v',Z]) (by simp [results,hr,ha.get t v hv,ha.get u v' aa,ha.get s Z M]) (ha.defers.trans h0) ⟨_,J,rfl,hp,hf w hs⟩
end
structure RowG (α:Type) where
 a:Option Addr
 c:Nat
 xs:List α
instance {α:Type}:Inhabited (RowG α):=⟨⟨none,0,[]⟩⟩
instance {α:Type}:Enc (RowG α):=⟨λr=>[.slice r.a r.xs.length r.c],1,by omega,λ_=>rfl,λr u hu=>by
 simp only [List.mem_cons,List.not_mem_nil,or_false] at hu
 rcases hu with rfl
 rfl⟩
end Go.Sl
namespace Go.Sl
section
variable {l:List Pt}{n:Nat}
theorem asc_at{i j:Nat}(h:AscP l)(Z:i<j)(M:j<l.length):Pt.lt (e_ l i) (e_ l j):=(pairwise_at l).1 h i j Z M
end
end Go.Sl
namespace Go.Sl
end Go.Sl
namespace Go.Sl
variable{xs:List Int}{k:Nat}
def cmpI(a b:Int):Int:=if a<b then -1 else if b<a then 1 else 0
def orL:List Int->Int
 |[]=>0
 |x::xs=>if x≠0 then x else orL xs
theorem orL_stop(Z:k<xs.length)(h:e_ xs k≠0):orL (xs.drop k)=e_ xs k:=by
 rw [drop_at xs k Z];simp only [orL];rw [if_pos h]
theorem orL_step(Z:k<xs.length)(h:e_ xs k=0):orL (xs.drop k)=orL (xs.drop (k+1)):=by
 rw [drop_at xs k Z];simp only [orL];rw [if_neg (by simp [h])]
theorem orL_end(Z:xs.length<=k):orL (xs.drop k)=0:=by rw [List.drop_eq_nil_of_le Z];rfl
theorem orL_cmp(a b:Pt):orL [cmpI a.u b.u,cmpI a.v b.v]=Pt.cmp a b:=by
 simp only [orL,cmpI,Pt.cmp]
 split<;>(try split at *)<;>(try split at *)<;>(try split at *)<;>(try split at *)<;>(try split at *)<;>omega
end Go.Sl
namespace Go.Sl
structure GrOk (nodes:Int) (es:List Pt):Prop where
 rng:0<=nodes/\nodes<=64
 asc:AscP es
 edge:∀e∈es,0<=e.u/\e.u<e.v/\e.v<nodes
def badE(nodes:Int)(e:Pt):Int:=if e.u<0\/e.v<=e.u\/nodes<=e.v then 6 else 0
def checkG(nodes:Int)(es:List Pt):Int:=if nodes<0\/64<nodes then 1 else scanL (badE nodes) Pt.lt none es
theorem badE_zero{nodes:Int}{e:Pt}:badE nodes e=0↔0<=e.u/\e.u<e.v/\e.v<nodes:=by
 unfold badE;split<;>omega
theorem checkG_ok{nodes:Int}{es:List Pt}:checkG nodes es=0↔GrOk nodes es:=by
 unfold checkG
 split
 ·rename_i h
  exact ⟨λe=>by omega,λe=>by have:=e.rng;omega⟩
 rename_i h
 rw [scanL_zero Pt.lin]
 constructor
 ·rintro ⟨Z,h2⟩;exact ⟨by omega,h2,λe M=>badE_zero.1<|Z e M⟩
 intro Z;exact ⟨λe M=>badE_zero.2<|Z.edge e M,Z.asc⟩
variable {nodes:Int}{es:List Pt}
theorem GrOk.at(h:GrOk nodes es){k:Nat}(Z:k<es.length):0<=(e_ es k).u/\(e_ es k).u<(e_ es k).v/\(e_ es k).v<nodes:=h.edge _ (at_mem (by omega) (by omega))
theorem asc_nodup{l:List Pt}(h:AscP l):l.Nodup:=h.imp fun {a b} h e=>Pt.lin.ne h e
end Go.Sl
namespace Go.Sl
open Go.RowKit (Below)
variable{e:TypeId}{ad:Option Addr}{E T b by' c h n sz:Nat}{x:Operand}{cs z:List Value}
theorem zeroCells_one{z:Array Value}(h:∀u∈z,u.oneCell'=true)(n:Nat):∀u∈(Builtin.zeroCells z n).toList,u.oneCell'=true:=λu hu=>by
 simp only [Builtin.zeroCells,Array.toList_map,List.mem_map,Array.toList_range,List.mem_range] at hu
 obtain ⟨i,hi,rfl⟩:=hu
 have M:0<z.size:=Nat.pos_of_ne_zero λe=>by rw [e] at hi;simp at hi
 have Z:i % z.size<z.size:=Nat.mod_lt _ M
 rw [getElem!_pos z _ Z]
 exact h _<|Array.getElem_mem Z
section
variable {P:Program}{κ:Ctx}{N:Frm}{Q:Exit->Act->World->Prop}{L:Env}{I J:List Item}
variable {d:Option Tmp}{ty:TypeId}{ps:String}{af:Array Edge}{gd:Option (Nat×Bool)}
variable {α:Type}[Enc α]{xs:List α}
theorem cutshort(hh:h<=xs.length):∀w,(vc e (.slice ad n c) xs).ok w->(vc e (.slice ad (xs.take h).length c) (xs.take h)).ok w/\
  ∀k,(vc e (.slice ad (xs.take h).length c)<|xs.take h).fp k->(vc e (.slice ad n c) xs).fp k:=by
 intro w hw
 obtain ⟨a,cap,hv,h1,h2,h3,h4⟩:=hw
 cases hv
 refine ⟨⟨ad,c,rfl,cells_length _,by rw [List.length_take];omega,h3,λhc=>?_⟩,λk hk=>?_⟩
 ·obtain ⟨b,off,aa,rfl,hb,ab,Z⟩:=h4 hc
  refine ⟨b,off,aa,rfl,hb,ab,λj u M=>Z j u ?_⟩
  rw [cells_take,List.getElem?_take] at M
  split at M
  ·exact M
  cases M
 obtain ⟨off,n',ae,hv,hc⟩:=hk
 simp only [Value.slice.injEq] at hv
 obtain ⟨rfl,_,rfl⟩:=hv
 exact ⟨off,_,_,rfl,hc⟩
theorem Eff.of_value0{o:Oper}{R:Env->List Item->Prop}(hd:o.dst=none)
  (h:∀a w,Ag N a L->Sep κ w I->∃v w' I',(execOp a.eval o).run P w = .ok (.value v) w'/\R L I'/\Sep κ w' I'):Eff P κ N Q o L I R:=λa w M hs=>by
 obtain ⟨v,w',I',hr,hR,Z⟩:=h a w M hs
 simp only [Oper.wp,hr,Oper.upon,hd]
 exact ⟨_,_,hR,M,Z⟩
theorem Runs.hiraw{y:Operand}{ag:Bool}{m:Int}(ht:P.underlying T=some (.slice E))(hE:tyF P E=some (sz,ag,by',z))(hx:er L x=some (.slice ad n c))(Z:er L y=some (e7 m))(hm:m=(h:Int))
  (hh:h<=c):Runs P κ N ⟨d,.slice T x none (some y) none,ty,ps,af,gd⟩ L J (.slice ad h c):=λa w M hs=>by
 subst hm
 have:=Runs.slice (P:=P) (κ:=κ) (N:=N) (L:=L) (J:=J) (d:=d) (ty:=ty) (ps:=ps) (af:=af) (gd:=gd) (l:=0) (h:=h) ht hE hx (.inl ⟨rfl,rfl⟩) (.inr ⟨y,rfl,Z⟩) (Nat.zero_le _) hh a w M hs
 rw [this]
 have e:(if c=0 then ad else ad.map (λx=>x.add<|0*sz))=ad:=by
  split
  ·rfl
  cases ad<;>simp [Addr.add]
 rw [e]
 rfl
theorem Sl.dropn{l m:Nat}(hv:Sl κ I (.slice ad n c) xs)(Z:l<=xs.length)(M:m=xs.length - l):Sl κ I (.slice (adrop ad c l (Enc.sz α)) m (c - l)) (xs.drop l):=by
 have h:=Sl.drop hv Z
 rw [List.length_drop,←M] at h
 exact h
theorem vc.cap(h:vc e (.slice ad n c) xs∈I):∀w,Sep κ w I->xs.length<=c:=λw hs=>by
 obtain ⟨_,_,Z,_,M,_⟩:=(Sl.vec (κ:=κ) h) w hs
 cases Z
 exact M
theorem Runs.caps(M:P.underlying T=some (.slice E))(Z:er L x=some (.slice ad n c)) :
  Runs P κ N ⟨d,.call {callee:= .builtin .cap,args:= #[x],argTypes:= #[T]},ty,ps,af,gd⟩ L J (e7 c):=
 λa w ha hs=>by
  simp [execOp,resolve,invoke,builtin,ha.eval Z,Builtin.cap_,run_underlying M,goInt]
def BlkRd(κ:Ctx)(I:List Item)(b:Nat)(cs:List Value)(T:TypeId):Prop:=∀w,Sep κ w I->w.heap[b]? = some (.cells cs.toArray T (0,0))
theorem BlkRd.fit{T:TypeId}(h:BlkRd κ I b cs T)(Z:Fit κ J I):BlkRd κ J b cs T:=λw s=>h w (Z w s)
theorem BlkRd.of{T:TypeId}(h:e8 b cs T∈I):BlkRd κ I b cs T:=λw s=>(s.ok _ h).1
theorem Runs.loadB{o:Nat}{v:Value}(M:tyF P T=some (sz,false,by',z))(Z:er L x=some (.pointer (some ⟨b,o,none⟩)))(hb:BlkRd κ J b cs E)(hc:cs[o]? = some v) :
  Runs P κ N ⟨d,.load T x,ty,ps,af,gd⟩ L J v:=
 λa w ha hs=>by
  have:=cell_blk (w:=w) (hb w hs) o
  simp [execOp,ha.eval Z,Instr.loadAt,Instr.sureAddr,run_loadVar_one M<|this.trans hc]
def Says(P:Program)(κ:Ctx)(I:List Item)(g:FuncId)(caps:List Value)(p:α->Bool):Prop:=callable P g=true/\∀(x:α) (J:List Item),Fit κ J I->eu P κ g ([]++[.agg (Enc.enc x).toArray]++caps) J λr J'=>r = .bool (p x)/\J=J'
theorem Says.fit{g:FuncId}{caps:List Value}{p:α->Bool}(h:Says P κ I g caps p)(M:Fit κ J I):Says P κ J g caps p:=⟨h.1,λx K Z=>h.2 x K (Z.trans M)⟩
end
end Go.Sl
namespace Go.Sl
variable{x y:Operand}{S T U:TypeId}{m n:Int}
section
variable {P:Program}{κ:Ctx}{N:Frm}{Q:Exit->Act->World->Prop}{L:Env}{I J:List Item}
variable {d:Option Tmp}{ty:TypeId}{ps:String}{af:Array Edge}{gd:Option (Nat×Bool)}
theorem Runs.convw{k k' q:IntKind}(hs:P.underlying S=some (.int q))(M:P.underlying T=some (.int k))(Z:er L x=some (.int k' n)) :
  Runs P κ N ⟨d,.convert S T x,ty,ps,af,gd⟩ L J (.int k<|k.wrap n):=λa w ha _=>by
 simp [execOp,ha.eval Z,convert,run_underlying hs,run_underlying M,Conv.intToInt]
theorem Runs.convI{k' q:IntKind}(hs:P.underlying S=some (.int q))(ht:P.underlying T=some (.int .i64))(Z:er L x=some (.int k' n))(M:InR n) :
  Runs P κ N ⟨d,.convert S T x,ty,ps,af,gd⟩ L J (e7 n):=by
 have h:=Runs.convw (P:=P) (κ:=κ) (N:=N) (J:=J) (d:=d) (ty:=ty) (ps:=ps) (af:=af) (gd:=gd) hs ht Z
 rwa [M.wrap] at h
theorem Runs.convU{k' q:IntKind}(hs:P.underlying S=some (.int q))(ht:P.underlying T=some (.int .u64))(Z:er L x=some (.int k' n))(M:0<=n/\n<=18446744073709551615) :
  Runs P κ N ⟨d,.convert S T x,ty,ps,af,gd⟩ L J (.int .u64 n):=by
 have h:=Runs.convw (P:=P) (κ:=κ) (N:=N) (J:=J) (d:=d) (ty:=ty) (ps:=ps) (af:=af) (gd:=gd) hs ht Z
 rwa [Go.IntWalk.u64_in _ M] at h
theorem Runs.shrw{k k':IntKind}(hx:er L x=some (.int k m))(M:er L y=some (.int k' n))(h0:0<=n) :
  Runs P κ N ⟨d,.binOp .shr T x y U,ty,ps,af,gd⟩ L J (.int k<|m.fdiv<|2 ^ Min.min n.toNat k.bits):=λa w Z _=>by
 have h:¬n<0:=by omega
 simp only [execOp,Z.eval hx,Z.eval M]
 simp [go_sem,Op.shift,h]
theorem Runs.shlw{k k':IntKind}(hx:er L x=some (.int k m))(M:er L y=some (.int k' n))(h0:0<=n) :
  Runs P κ N ⟨d,.binOp .shl T x y U,ty,ps,af,gd⟩ L J (.int k<|k.wrap<|m*2 ^ Min.min n.toNat k.bits):=λa w Z _=>by
 have h:¬n<0:=by omega
 simp only [execOp,Z.eval hx,Z.eval M]
 simp [go_sem,Op.shift,h]
theorem Runs.shr1{k':IntKind}(M:er L x=some (.int .u64 m))(Z:er L y=some (.int k' 1)) :
  Runs P κ N ⟨d,.binOp .shr T x y U,ty,ps,af,gd⟩ L J (.int .u64<|m / 2):=by
 have h:=Runs.shrw (P:=P) (κ:=κ) (N:=N) (J:=J) (d:=d) (ty:=ty) (ps:=ps) (af:=af) (gd:=gd) (T:=T) (U:=U) M Z (by decide)
 have e:m.fdiv (2 ^ Min.min (1:Int).toNat IntKind.u64.bits)=m / 2:=by
  rw [show (2:Int) ^ Min.min (1:Int).toNat IntKind.u64.bits=2 by decide]
  exact Int.fdiv_eq_ediv_of_nonneg _<|by decide
 rwa [e] at h
theorem V.retc2{fn:Func}{t u s:Tmp}{T b E sz by':Nat}{z cs:List Value}{v' M:Value}{Post:Value->List Item->Prop}(hr:fn.results = #[.cell t T,.tmp u,.tmp s])(hT:tyF P T=some (sz,true,by',z))(hv:look L t=some ((pt b)))(ad:look L u=some v')(ab:look L s=some M)(hb:e8 b cs E∈I)
  (hl:cs.length=sz) (J:List Item) (hf:Fit κ I J) (hp:Post (.tuple #[.agg cs.toArray,v',M]) J) (h0:N.ds=[]:=by rfl):V κ N (bodyPost P fn<|RetR κ Post) .ret L I:=
 λa w ha hs=>by
  have Z:=λj=>cell_blk (w:=w) (hs.ok _ hb).1 j
  have aa:(loadVar T ⟨b,0,none⟩).run P w = .ok (.agg cs.toArray) w:=run_loadVar_agg hT hl λj u hj=>by rw [addr_add,Z,←hj];simp
  refine bodyPost_ret (v:= .tuple #[.agg cs.toArray,v',M]) ?_ (ha.defers.trans h0) ⟨_,J,rfl,hp,hf w hs⟩
  simp [results,hr,ha.get t _ hv,ha.get u _ ad,ha.get s _ ab,asAddr,aa]
end
end Go.Sl
