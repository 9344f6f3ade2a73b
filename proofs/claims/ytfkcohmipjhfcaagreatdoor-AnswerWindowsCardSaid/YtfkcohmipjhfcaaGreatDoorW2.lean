/- A part of the proofs of statements of this seat: contracts of functions, and the plain laws that they lean on. No conditions. -/
import Derived.Test.YtfkcohmipjhfcaaGreatDoorW1
import Derived.Laws.StructEq
import Derived.ChangeKeysEq
set_option linter.unusedVariables false
set_option linter.unusedSimpArgs false
set_option linter.unusedSectionVars false
namespace Go.Sl
section
variable {P:Program}{κ:Ctx}{N:Frm}{Q:Exit->Act->World->Prop}{L:Env}{I J:List Item}{ops:Array Oper}{o:Oper}{rest:List Oper}{q:Op}{ty:TypeId}{ps:String}{af:Array Edge}{gd:Option (Nat×Bool)}
theorem Gr{d:Nat}{v:Value}(hr:Runs P κ N ⟨some d,q,ty,ps,af,none⟩ L I v)(h:G P κ N ops Q rest ((d,v)::L) I)(hN:Nat.blt d N.n=true:=by exact rfl):G P κ N ops Q (⟨some d,q,ty,ps,af,none⟩::rest) L I:=G.read (Wanted.plain rfl) rfl hN hr h
theorem Gm{d:Nat}{v:Value}{x:Operand}(hx:er L x=some v)(h:G P κ N ops Q rest ((d,v)::L) I)(hN:Nat.blt d N.n=true:=by exact rfl):G P κ N ops Q (⟨some d,.move x,ty,ps,af,none⟩::rest) L I:=Gr (Runs.move hx) h hN
theorem Ga{d:Nat}{v:Value}{x:Operand}(hx:er L x=some v)(h:G P κ N ops Q rest ((d,v)::L) I)(hN:Nat.blt d N.n=true:=by exact rfl):G P κ N ops Q (⟨some d,.assign x,ty,ps,af,none⟩::rest) L I:=Gr (Runs.assign hx) h hN
theorem e9{d:Nat}{v:Value}(hr:Runs P κ N ⟨some d,q,ty,ps,af,gd⟩ L I v)(h:G P κ N ops Q rest ((d,v)::L) I)(hw:Wanted N ops ⟨some d,q,ty,ps,af,gd⟩ L:=by exact Wanted.on rfl rfl rfl)(hN:Nat.blt d N.n=true:=by exact rfl):G P κ N ops Q (⟨some d,q,ty,ps,af,gd⟩::rest) L I:=G.read hw rfl hN hr h
theorem ee{d:Nat}(h:G P κ N ops Q rest ((d,undef)::L) I)(hw:Unwanted N ops ⟨some d,q,ty,ps,af,gd⟩ L:=by exact Unwanted.und rfl rfl rfl)(hN:Nat.blt d N.n=true:=by exact rfl):G P κ N ops Q (⟨some d,q,ty,ps,af,gd⟩::rest) L I:=G.pass hw rfl hN h
theorem eb{d:Nat}(h:G P κ N ops Q rest ((d,undef)::L) I)(hw:Unwanted N ops ⟨some d,q,ty,ps,af,gd⟩ L:=by exact Unwanted.off rfl rfl rfl)(hN:Nat.blt d N.n=true:=by exact rfl):G P κ N ops Q (⟨some d,q,ty,ps,af,gd⟩::rest) L I:=G.pass hw rfl hN h
theorem V.nx{σ:Type}{Lv:σ->Env}{Iv:σ->List Item}{p:σ->Prop}{μ:σ->Nat}{s:σ}(s':σ)(hp:p s')(hlt:μ s'<μ s:=by (try dsimp only);omega)
  (hL:Sub L (Lv s'):=by repeat (first|exact Sub.nil|refine Sub.cons rfl ?_|refine Sub.cons lookO ?_|refine Sub.cons (lookV rfl (by first|rfl|simp)) ?_)) (hI:Fit κ I (Iv s'):=by (try dsimp only);exact Fit.s) :
  V κ N (Exit.then (LoopK κ N Lv Iv p μ s) Q) .normal L I:=V.next s' hp hlt hL hI
theorem V.mi{σ:Type}{Lv:σ->Env}{Iv:σ->List Item}{p:σ->Prop}(s:σ)(hp:p s)
  (hL:Sub L (Lv s):=by repeat (first|exact Sub.nil|refine Sub.cons rfl ?_|refine Sub.cons lookO ?_|refine Sub.cons (lookV rfl (by first|rfl|simp)) ?_)) (hI:Fit κ I (Iv s):=by (try dsimp only);exact Fit.s) :
  V κ N (Exit.then (MidK κ N Lv Iv p) Q) .normal L I:=V.mid s hp hL hI
theorem Dr{stop fuel:Nat}{listed:Array Bool}{d:Nat}{v:Value}(i:Nat)(hi:ops[i]? = some ⟨some d,q,ty,ps,af,gd⟩)(hrun:Runs P κ N ⟨some d,q,ty,ps,af,gd⟩ L J v)(h:D P κ N ops Q J stop fuel (listed.setIfInBounds i true) ((d,v)::L) I)(hw:Wanted N ops ⟨some d,q,ty,ps,af,gd⟩ L:=by exact Wanted.plain rfl)
  (hN:Nat.blt d N.n=true:=by exact rfl) (hns:Region.noSelect ops=true:=by kernel_rfl) (hf:Region.free .any ops listed i=true:=by kernel_rfl)
  (hr:(Region.ready .any ops listed).contains i=true:=by kernel_rfl) (hne:Nat.beq i stop=false:=by exact rfl) (hwt:waitsFor .any ops stop i=true:=by kernel_rfl)
  (hQ:∀c a u w,Q (.panic c) (a.put (some d) u) w->Q (.panic c) a w:=by exact λ_ _ _ _ h=>h) (hJ:Fit κ I J:=by first|((repeat (first|exact Fit.refl _|apply Fit.tail|exact Fit.appR _ _|apply Fit.appL));done)|(refine Fit.of_sublist ?_;(repeat (first|exact List.Sublist.refl _|apply List.Sublist.cons_cons|apply List.Sublist.cons|exact List.sublist_append_right _ _));done)|(refine Fit.sp ?_;(repeat (first|exact Sp.refl _|refine Sp.pick (by repeat (first|exact Pick.head _ _|apply Pick.tail|apply Pick.app)) ?_|apply Sp.skip|exact Sp.appR _ _));done)):D P κ N ops Q J stop (fuel+1) listed L I:=D.read i hi hns hf hr hne hwt hQ hw rfl hN hJ hrun h
theorem Dro{stop fuel:Nat}{listed:Array Bool}{d:Nat}{v:Value}(i:Nat)(hi:ops[i]? = some ⟨some d,q,ty,ps,af,gd⟩)(hrun:Runs P κ N ⟨some d,q,ty,ps,af,gd⟩ L J v)(h:D P κ N ops Q J stop fuel (listed.setIfInBounds i true) ((d,v)::L) I)(hw:Wanted N ops ⟨some d,q,ty,ps,af,gd⟩ L:=by exact Wanted.on rfl rfl rfl)
  (hN:Nat.blt d N.n=true:=by exact rfl) (hns:Region.noSelect ops=true:=by kernel_rfl) (hf:Region.free .any ops listed i=true:=by kernel_rfl)
  (hr:(Region.ready .any ops listed).contains i=true:=by kernel_rfl) (hne:Nat.beq i stop=false:=by exact rfl) (hwt:waitsFor .any ops stop i=true:=by kernel_rfl)
  (hQ:∀c a u w,Q (.panic c) (a.put (some d) u) w->Q (.panic c) a w:=by exact λ_ _ _ _ h=>h) (hJ:Fit κ I J:=by first|((repeat (first|exact Fit.refl _|apply Fit.tail|exact Fit.appR _ _|apply Fit.appL));done)|(refine Fit.of_sublist ?_;(repeat (first|exact List.Sublist.refl _|apply List.Sublist.cons_cons|apply List.Sublist.cons|exact List.sublist_append_right _ _));done)|(refine Fit.sp ?_;(repeat (first|exact Sp.refl _|refine Sp.pick (by repeat (first|exact Pick.head _ _|apply Pick.tail|apply Pick.app)) ?_|apply Sp.skip|exact Sp.appR _ _));done)):D P κ N ops Q J stop (fuel+1) listed L I:=D.read i hi hns hf hr hne hwt hQ hw rfl hN hJ hrun h
theorem Dpu{stop fuel:Nat}{listed:Array Bool}{d:Nat}(i:Nat)(hi:ops[i]? = some ⟨some d,q,ty,ps,af,gd⟩)(h:D P κ N ops Q J stop fuel (listed.setIfInBounds i true) ((d,undef)::L) I)(hw:Unwanted N ops ⟨some d,q,ty,ps,af,gd⟩ L:=by exact Unwanted.und rfl rfl rfl)
  (hN:Nat.blt d N.n=true:=by exact rfl) (hns:Region.noSelect ops=true:=by kernel_rfl) (hf:Region.free .any ops listed i=true:=by kernel_rfl)
  (hr:(Region.ready .any ops listed).contains i=true:=by kernel_rfl) (hne:Nat.beq i stop=false:=by exact rfl) (hwt:waitsFor .any ops stop i=true:=by kernel_rfl)
  (hQ:∀c a u w,Q (.panic c) (a.put (some d) u) w->Q (.panic c) a w:=by exact λ_ _ _ _ h=>h) (hJ:Fit κ I J:=by first|((repeat (first|exact Fit.refl _|apply Fit.tail|exact Fit.appR _ _|apply Fit.appL));done)|(refine Fit.of_sublist ?_;(repeat (first|exact List.Sublist.refl _|apply List.Sublist.cons_cons|apply List.Sublist.cons|exact List.sublist_append_right _ _));done)|(refine Fit.sp ?_;(repeat (first|exact Sp.refl _|refine Sp.pick (by repeat (first|exact Pick.head _ _|apply Pick.tail|apply Pick.app)) ?_|apply Sp.skip|exact Sp.appR _ _));done)):D P κ N ops Q J stop (fuel+1) listed L I:=D.pass i hi hns hf hr hne hwt hQ hw rfl hN hJ h
theorem Dpo{stop fuel:Nat}{listed:Array Bool}{d:Nat}(i:Nat)(hi:ops[i]? = some ⟨some d,q,ty,ps,af,gd⟩)(h:D P κ N ops Q J stop fuel (listed.setIfInBounds i true) ((d,undef)::L) I)(hw:Unwanted N ops ⟨some d,q,ty,ps,af,gd⟩ L:=by exact Unwanted.off rfl rfl rfl)
  (hN:Nat.blt d N.n=true:=by exact rfl) (hns:Region.noSelect ops=true:=by kernel_rfl) (hf:Region.free .any ops listed i=true:=by kernel_rfl)
  (hr:(Region.ready .any ops listed).contains i=true:=by kernel_rfl) (hne:Nat.beq i stop=false:=by exact rfl) (hwt:waitsFor .any ops stop i=true:=by kernel_rfl)
  (hQ:∀c a u w,Q (.panic c) (a.put (some d) u) w->Q (.panic c) a w:=by exact λ_ _ _ _ h=>h) (hJ:Fit κ I J:=by first|((repeat (first|exact Fit.refl _|apply Fit.tail|exact Fit.appR _ _|apply Fit.appL));done)|(refine Fit.of_sublist ?_;(repeat (first|exact List.Sublist.refl _|apply List.Sublist.cons_cons|apply List.Sublist.cons|exact List.sublist_append_right _ _));done)|(refine Fit.sp ?_;(repeat (first|exact Sp.refl _|refine Sp.pick (by repeat (first|exact Pick.head _ _|apply Pick.tail|apply Pick.app)) ?_|apply Sp.skip|exact Sp.appR _ _));done)):D P κ N ops Q J stop (fuel+1) listed L I:=D.pass i hi hns hf hr hne hwt hQ hw rfl hN hJ h
theorem Ds1{stop fuel:Nat}{listed:Array Bool}(i:Nat)(h:Step P κ N ops Q J stop fuel listed L I i)(hr:Region.ready .any ops listed=[i]:=by kernel_rfl)(hns:([i]==[stop])=false:=by exact rfl):D P κ N ops Q J stop (fuel+1) listed L I:=D.step hr rfl hns (all1 h)
theorem Se{stop fuel:Nat}{listed:Array Bool}{i:Nat}{R:Env->List Item->Prop}(hi:ops[i]? = some o)(he:Eff P κ N Q o L I R)(h:∀L' I',R L' I'->Fit κ I' J/\D P κ N ops Q J stop fuel (listed.setIfInBounds i true) L' I')(hw:Wanted N ops o L:=by first|exact Wanted.plain rfl|exact Wanted.on rfl rfl rfl):Step P κ N ops Q J stop fuel listed L I i:=Step.eff hi hw he h
theorem Sr{stop fuel:Nat}{listed:Array Bool}{i d:Nat}{v:Value}(hi:ops[i]? = some ⟨some d,q,ty,ps,af,gd⟩)(hr:Runs P κ N ⟨some d,q,ty,ps,af,gd⟩ L I v)(hf:Fit κ I J)(h:D P κ N ops Q J stop fuel (listed.setIfInBounds i true) ((d,v)::L) I)(hw:Wanted N ops ⟨some d,q,ty,ps,af,gd⟩ L:=by first|exact Wanted.plain rfl|exact Wanted.on rfl rfl rfl)(hN:Nat.blt d N.n=true:=by exact rfl):Step P κ N ops Q J stop fuel listed L I i:=Step.read hi hw rfl hN hr hf h
theorem Ae{fuel:Nat}{listed:Array Bool}(i:Nat){R:Env->List Item->Prop}(hi:ops[i]? = some o)(he:Eff P κ N Q o L I R)(h:∀L' I',R L' I'->A P κ N ops Q fuel (listed.setIfInBounds i true) L' I')(hw:Wanted N ops o L:=by first|exact Wanted.plain rfl|exact Wanted.on rfl rfl rfl)(hr:Region.ready .any ops listed=[i]:=by kernel_rfl):A P κ N ops Q (fuel+1) listed L I:=A.eff hr hi hw he h
theorem Gf{d T k off b o:Nat}{x:Operand}(h:fldF P T k=some off)(hx:er L x=some (.pointer (some ⟨b,o,none⟩)))(hh:G P κ N ops Q rest ((d,.pointer (some ⟨b,o+off,none⟩))::L) I)(hN:Nat.blt d N.n=true:=by exact rfl):G P κ N ops Q (⟨some d,.fieldAddr T x k,ty,ps,af,none⟩::rest) L I:=Gr (Runs.fieldAddr h hx) hh hN
theorem Gl{d T sz by' b o E:Nat}{x:Operand}{z cs:List Value}{v:Value}(hT:tyF P T=some (sz,false,by',z))(h:G P κ N ops Q rest ((d,v)::L) I)(hx:er L x=some (.pointer (some ⟨b,o,none⟩)):=by exact rfl)
  (hb:e8 b cs E∈I:=by repeat (first|exact List.mem_cons_self|apply List.mem_cons_of_mem)) (hc:cs[o]? = some v:=by exact rfl) (hN:Nat.blt d N.n=true:=by exact rfl):G P κ N ops Q (⟨some d,.load T x,ty,ps,af,none⟩::rest) L I:=Gr (Runs.load hT hx hb hc) h hN
theorem Rad{x y:Operand}{d:Option Tmp}{T U:TypeId}{m n:Int}(hx:er L x=some (e7 m))(hy:er L y=some (e7 n))(hr:InR (m+n):=by unfold InR;omega):Runs P κ N ⟨d,.binOp .add T x y U,ty,ps,af,gd⟩ L J (e7 (m+n)):=Runs.add hx hy hr
theorem Rsu{x y:Operand}{d:Option Tmp}{T U:TypeId}{m n:Int}(hx:er L x=some (e7 m))(hy:er L y=some (e7 n))(hr:InR (m - n):=by unfold InR;omega):Runs P κ N ⟨d,.binOp .sub T x y U,ty,ps,af,gd⟩ L J (e7 (m - n)):=Runs.sub hx hy hr
theorem mm{x:Item}(h:x∈I:=by repeat (first|exact List.mem_cons_self|apply List.mem_cons_of_mem)):x∈I:=h
theorem am{x y:Item}{I':List Item}(h:At I x y I':=by repeat (first|exact At.head _ _ _|apply At.tail)):At I x y I':=h
theorem f1(h:Fit κ I J:=by repeat (first|exact Fit.one|apply Fit.tail)):Fit κ I J:=h
theorem om{p:Prop}(h:p:=by omega):p:=h
theorem oo{p:Prop}(h:p:=by first|omega|(simp only [List.length_set];omega)):p:=h
theorem Gl2{d T sz by' b o E:Nat}{x:Operand}{z cs:List Value}{v0 v1:Value}(hT:tyF P T=some (sz,true,by',z))(h:G P κ N ops Q rest ((d,.agg #[v0,v1])::L) I)(hx:er L x=some (.pointer (some ⟨b,o,none⟩)):=by exact rfl)
  (hb:e8 b cs E∈I:=by repeat (first|exact List.mem_cons_self|apply List.mem_cons_of_mem)) (hc:(cs.drop o).take sz=[v0,v1]:=by exact rfl) (hl:[v0,v1].length=sz:=by exact rfl) (hN:Nat.blt d N.n=true:=by exact rfl):G P κ N ops Q (⟨some d,.load T x,ty,ps,af,none⟩::rest) L I:=Gr (Runs.loads hT hx hb hc hl) h hN
theorem Gl3{d T sz by' b o E:Nat}{x:Operand}{z cs:List Value}{v0 v1 v2:Value}(hT:tyF P T=some (sz,true,by',z))(h:G P κ N ops Q rest ((d,.agg #[v0,v1,v2])::L) I)(hx:er L x=some (.pointer (some ⟨b,o,none⟩)):=by exact rfl)
  (hb:e8 b cs E∈I:=by repeat (first|exact List.mem_cons_self|apply List.mem_cons_of_mem)) (hc:(cs.drop o).take sz=[v0,v1,v2]:=by exact rfl) (hl:[v0,v1,v2].length=sz:=by exact rfl) (hN:Nat.blt d N.n=true:=by exact rfl):G P κ N ops Q (⟨some d,.load T x,ty,ps,af,none⟩::rest) L I:=Gr (Runs.loads hT hx hb hc hl) h hN
theorem Gl4{d T sz by' b o E:Nat}{x:Operand}{z cs:List Value}{v0 v1 v2 v3:Value}(hT:tyF P T=some (sz,true,by',z))(h:G P κ N ops Q rest ((d,.agg #[v0,v1,v2,v3])::L) I)(hx:er L x=some (.pointer (some ⟨b,o,none⟩)):=by exact rfl)
  (hb:e8 b cs E∈I:=by repeat (first|exact List.mem_cons_self|apply List.mem_cons_of_mem)) (hc:(cs.drop o).take sz=[v0,v1,v2,v3]:=by exact rfl) (hl:[v0,v1,v2,v3].length=sz:=by exact rfl) (hN:Nat.blt d N.n=true:=by exact rfl):G P κ N ops Q (⟨some d,.load T x,ty,ps,af,none⟩::rest) L I:=Gr (Runs.loads hT hx hb hc hl) h hN
theorem Gl6{d T sz by' b o E:Nat}{x:Operand}{z cs:List Value}{v0 v1 v2 v3 v4 v5:Value}(hT:tyF P T=some (sz,true,by',z))(h:G P κ N ops Q rest ((d,.agg #[v0,v1,v2,v3,v4,v5])::L) I)(hx:er L x=some (.pointer (some ⟨b,o,none⟩)):=by exact rfl)
  (hb:e8 b cs E∈I:=by repeat (first|exact List.mem_cons_self|apply List.mem_cons_of_mem)) (hc:(cs.drop o).take sz=[v0,v1,v2,v3,v4,v5]:=by exact rfl) (hl:[v0,v1,v2,v3,v4,v5].length=sz:=by exact rfl) (hN:Nat.blt d N.n=true:=by exact rfl):G P κ N ops Q (⟨some d,.load T x,ty,ps,af,none⟩::rest) L I:=Gr (Runs.loads hT hx hb hc hl) h hN
theorem Gl7{d T sz by' b o E:Nat}{x:Operand}{z cs:List Value}{v0 v1 v2 v3 v4 v5 v6:Value}(hT:tyF P T=some (sz,true,by',z))(h:G P κ N ops Q rest ((d,.agg #[v0,v1,v2,v3,v4,v5,v6])::L) I)(hx:er L x=some (.pointer (some ⟨b,o,none⟩)):=by exact rfl)
  (hb:e8 b cs E∈I:=by repeat (first|exact List.mem_cons_self|apply List.mem_cons_of_mem)) (hc:(cs.drop o).take sz=[v0,v1,v2,v3,v4,v5,v6]:=by exact rfl) (hl:[v0,v1,v2,v3,v4,v5,v6].length=sz:=by exact rfl) (hN:Nat.blt d N.n=true:=by exact rfl):G P κ N ops Q (⟨some d,.load T x,ty,ps,af,none⟩::rest) L I:=Gr (Runs.loads hT hx hb hc hl) h hN
theorem Es2_2{x y:Operand}{T sz by' b o E:Nat}{ag:Bool}{z:List Value}{c0 c1 v0 v1 e0 e1 v:Value}{I':List Item}(hT:tyF P T=some (sz,ag,by',z))(hx:er L x=some (.pointer (some ⟨b,o,none⟩)):=by exact rfl)(hy:er L y=some v:=by exact rfl)
  (hv:cellsOf v=[v0,v1]:=by exact rfl) (hl:[v0,v1].length=sz:=by exact rfl) (h1:AllOne [v0,v1]:=by repeat (first|exact AllOne.nil|refine AllOne.cons rfl ?_)) (hat:At I (e8 b [c0,c1] E) (e8 b [e0,e1] E) I':=by repeat (first|exact At.head _ _ _|apply At.tail)) (hr:o+[v0,v1].length<=[c0,c1].length:=by exact Nat.le_of_ble_eq_true rfl) (hcs:[c0,c1].take o++[v0,v1]++[c0,c1].drop (o+[v0,v1].length)=[e0,e1]:=by exact rfl) :
  Eff P κ N Q ⟨none,.store T x y,ty,ps,af,gd⟩ L I λL' I''=>L'=L/\I''=I':=Eff.st hT hx hy hv hl h1 hat hr hcs
theorem Es6_6{x y:Operand}{T sz by' b o E:Nat}{ag:Bool}{z:List Value}{c0 c1 c2 c3 c4 c5 v0 v1 v2 v3 v4 v5 e0 e1 e2 e3 e4 e5 v:Value}{I':List Item}(hT:tyF P T=some (sz,ag,by',z))(hx:er L x=some (.pointer (some ⟨b,o,none⟩)):=by exact rfl)(hy:er L y=some v:=by exact rfl)
  (hv:cellsOf v=[v0,v1,v2,v3,v4,v5]:=by exact rfl) (hl:[v0,v1,v2,v3,v4,v5].length=sz:=by exact rfl) (h1:AllOne [v0,v1,v2,v3,v4,v5]:=by repeat (first|exact AllOne.nil|refine AllOne.cons rfl ?_)) (hat:At I (e8 b [c0,c1,c2,c3,c4,c5] E) (e8 b [e0,e1,e2,e3,e4,e5] E) I':=by repeat (first|exact At.head _ _ _|apply At.tail)) (hr:o+[v0,v1,v2,v3,v4,v5].length<=[c0,c1,c2,c3,c4,c5].length:=by exact Nat.le_of_ble_eq_true rfl) (hcs:[c0,c1,c2,c3,c4,c5].take o++[v0,v1,v2,v3,v4,v5]++[c0,c1,c2,c3,c4,c5].drop (o+[v0,v1,v2,v3,v4,v5].length)=[e0,e1,e2,e3,e4,e5]:=by exact rfl) :
  Eff P κ N Q ⟨none,.store T x y,ty,ps,af,gd⟩ L I λL' I''=>L'=L/\I''=I':=Eff.st hT hx hy hv hl h1 hat hr hcs
theorem Es2_1{x y:Operand}{T sz by' b o E:Nat}{ag:Bool}{z:List Value}{c0 c1 v0 e0 e1 v:Value}{I':List Item}(hT:tyF P T=some (sz,ag,by',z))(hx:er L x=some (.pointer (some ⟨b,o,none⟩)):=by exact rfl)(hy:er L y=some v:=by exact rfl)
  (hv:cellsOf v=[v0]:=by exact rfl) (hl:[v0].length=sz:=by exact rfl) (h1:AllOne [v0]:=by repeat (first|exact AllOne.nil|refine AllOne.cons rfl ?_)) (hat:At I (e8 b [c0,c1] E) (e8 b [e0,e1] E) I':=by repeat (first|exact At.head _ _ _|apply At.tail)) (hr:o+[v0].length<=[c0,c1].length:=by exact Nat.le_of_ble_eq_true rfl) (hcs:[c0,c1].take o++[v0]++[c0,c1].drop (o+[v0].length)=[e0,e1]:=by exact rfl) :
  Eff P κ N Q ⟨none,.store T x y,ty,ps,af,gd⟩ L I λL' I''=>L'=L/\I''=I':=Eff.st hT hx hy hv hl h1 hat hr hcs
theorem Es7_1{x y:Operand}{T sz by' b o E:Nat}{ag:Bool}{z:List Value}{c0 c1 c2 c3 c4 c5 c6 v0 e0 e1 e2 e3 e4 e5 e6 v:Value}{I':List Item}(hT:tyF P T=some (sz,ag,by',z))(hx:er L x=some (.pointer (some ⟨b,o,none⟩)):=by exact rfl)(hy:er L y=some v:=by exact rfl)
  (hv:cellsOf v=[v0]:=by exact rfl) (hl:[v0].length=sz:=by exact rfl) (h1:AllOne [v0]:=by repeat (first|exact AllOne.nil|refine AllOne.cons rfl ?_)) (hat:At I (e8 b [c0,c1,c2,c3,c4,c5,c6] E) (e8 b [e0,e1,e2,e3,e4,e5,e6] E) I':=by repeat (first|exact At.head _ _ _|apply At.tail)) (hr:o+[v0].length<=[c0,c1,c2,c3,c4,c5,c6].length:=by exact Nat.le_of_ble_eq_true rfl) (hcs:[c0,c1,c2,c3,c4,c5,c6].take o++[v0]++[c0,c1,c2,c3,c4,c5,c6].drop (o+[v0].length)=[e0,e1,e2,e3,e4,e5,e6]:=by exact rfl) :
  Eff P κ N Q ⟨none,.store T x y,ty,ps,af,gd⟩ L I λL' I''=>L'=L/\I''=I':=Eff.st hT hx hy hv hl h1 hat hr hcs
theorem Es5_5{x y:Operand}{T sz by' b o E:Nat}{ag:Bool}{z:List Value}{c0 c1 c2 c3 c4 v0 v1 v2 v3 v4 e0 e1 e2 e3 e4 v:Value}{I':List Item}(hT:tyF P T=some (sz,ag,by',z))(hx:er L x=some (.pointer (some ⟨b,o,none⟩)):=by exact rfl)(hy:er L y=some v:=by exact rfl)
  (hv:cellsOf v=[v0,v1,v2,v3,v4]:=by exact rfl) (hl:[v0,v1,v2,v3,v4].length=sz:=by exact rfl) (h1:AllOne [v0,v1,v2,v3,v4]:=by repeat (first|exact AllOne.nil|refine AllOne.cons rfl ?_)) (hat:At I (e8 b [c0,c1,c2,c3,c4] E) (e8 b [e0,e1,e2,e3,e4] E) I':=by repeat (first|exact At.head _ _ _|apply At.tail)) (hr:o+[v0,v1,v2,v3,v4].length<=[c0,c1,c2,c3,c4].length:=by exact Nat.le_of_ble_eq_true rfl) (hcs:[c0,c1,c2,c3,c4].take o++[v0,v1,v2,v3,v4]++[c0,c1,c2,c3,c4].drop (o+[v0,v1,v2,v3,v4].length)=[e0,e1,e2,e3,e4]:=by exact rfl) :
  Eff P κ N Q ⟨none,.store T x y,ty,ps,af,gd⟩ L I λL' I''=>L'=L/\I''=I':=Eff.st hT hx hy hv hl h1 hat hr hcs
theorem Es7_7{x y:Operand}{T sz by' b o E:Nat}{ag:Bool}{z:List Value}{c0 c1 c2 c3 c4 c5 c6 v0 v1 v2 v3 v4 v5 v6 e0 e1 e2 e3 e4 e5 e6 v:Value}{I':List Item}(hT:tyF P T=some (sz,ag,by',z))(hx:er L x=some (.pointer (some ⟨b,o,none⟩)):=by exact rfl)(hy:er L y=some v:=by exact rfl)
  (hv:cellsOf v=[v0,v1,v2,v3,v4,v5,v6]:=by exact rfl) (hl:[v0,v1,v2,v3,v4,v5,v6].length=sz:=by exact rfl) (h1:AllOne [v0,v1,v2,v3,v4,v5,v6]:=by repeat (first|exact AllOne.nil|refine AllOne.cons rfl ?_)) (hat:At I (e8 b [c0,c1,c2,c3,c4,c5,c6] E) (e8 b [e0,e1,e2,e3,e4,e5,e6] E) I':=by repeat (first|exact At.head _ _ _|apply At.tail)) (hr:o+[v0,v1,v2,v3,v4,v5,v6].length<=[c0,c1,c2,c3,c4,c5,c6].length:=by exact Nat.le_of_ble_eq_true rfl) (hcs:[c0,c1,c2,c3,c4,c5,c6].take o++[v0,v1,v2,v3,v4,v5,v6]++[c0,c1,c2,c3,c4,c5,c6].drop (o+[v0,v1,v2,v3,v4,v5,v6].length)=[e0,e1,e2,e3,e4,e5,e6]:=by exact rfl) :
  Eff P κ N Q ⟨none,.store T x y,ty,ps,af,gd⟩ L I λL' I''=>L'=L/\I''=I':=Eff.st hT hx hy hv hl h1 hat hr hcs
theorem Es3_3{x y:Operand}{T sz by' b o E:Nat}{ag:Bool}{z:List Value}{c0 c1 c2 v0 v1 v2 e0 e1 e2 v:Value}{I':List Item}(hT:tyF P T=some (sz,ag,by',z))(hx:er L x=some (.pointer (some ⟨b,o,none⟩)):=by exact rfl)(hy:er L y=some v:=by exact rfl)
  (hv:cellsOf v=[v0,v1,v2]:=by exact rfl) (hl:[v0,v1,v2].length=sz:=by exact rfl) (h1:AllOne [v0,v1,v2]:=by repeat (first|exact AllOne.nil|refine AllOne.cons rfl ?_)) (hat:At I (e8 b [c0,c1,c2] E) (e8 b [e0,e1,e2] E) I':=by repeat (first|exact At.head _ _ _|apply At.tail)) (hr:o+[v0,v1,v2].length<=[c0,c1,c2].length:=by exact Nat.le_of_ble_eq_true rfl) (hcs:[c0,c1,c2].take o++[v0,v1,v2]++[c0,c1,c2].drop (o+[v0,v1,v2].length)=[e0,e1,e2]:=by exact rfl) :
  Eff P κ N Q ⟨none,.store T x y,ty,ps,af,gd⟩ L I λL' I''=>L'=L/\I''=I':=Eff.st hT hx hy hv hl h1 hat hr hcs
theorem Es6_1{x y:Operand}{T sz by' b o E:Nat}{ag:Bool}{z:List Value}{c0 c1 c2 c3 c4 c5 v0 e0 e1 e2 e3 e4 e5 v:Value}{I':List Item}(hT:tyF P T=some (sz,ag,by',z))(hx:er L x=some (.pointer (some ⟨b,o,none⟩)):=by exact rfl)(hy:er L y=some v:=by exact rfl)
  (hv:cellsOf v=[v0]:=by exact rfl) (hl:[v0].length=sz:=by exact rfl) (h1:AllOne [v0]:=by repeat (first|exact AllOne.nil|refine AllOne.cons rfl ?_)) (hat:At I (e8 b [c0,c1,c2,c3,c4,c5] E) (e8 b [e0,e1,e2,e3,e4,e5] E) I':=by repeat (first|exact At.head _ _ _|apply At.tail)) (hr:o+[v0].length<=[c0,c1,c2,c3,c4,c5].length:=by exact Nat.le_of_ble_eq_true rfl) (hcs:[c0,c1,c2,c3,c4,c5].take o++[v0]++[c0,c1,c2,c3,c4,c5].drop (o+[v0].length)=[e0,e1,e2,e3,e4,e5]:=by exact rfl) :
  Eff P κ N Q ⟨none,.store T x y,ty,ps,af,gd⟩ L I λL' I''=>L'=L/\I''=I':=Eff.st hT hx hy hv hl h1 hat hr hcs
theorem Es4_4{x y:Operand}{T sz by' b o E:Nat}{ag:Bool}{z:List Value}{c0 c1 c2 c3 v0 v1 v2 v3 e0 e1 e2 e3 v:Value}{I':List Item}(hT:tyF P T=some (sz,ag,by',z))(hx:er L x=some (.pointer (some ⟨b,o,none⟩)):=by exact rfl)(hy:er L y=some v:=by exact rfl)
  (hv:cellsOf v=[v0,v1,v2,v3]:=by exact rfl) (hl:[v0,v1,v2,v3].length=sz:=by exact rfl) (h1:AllOne [v0,v1,v2,v3]:=by repeat (first|exact AllOne.nil|refine AllOne.cons rfl ?_)) (hat:At I (e8 b [c0,c1,c2,c3] E) (e8 b [e0,e1,e2,e3] E) I':=by repeat (first|exact At.head _ _ _|apply At.tail)) (hr:o+[v0,v1,v2,v3].length<=[c0,c1,c2,c3].length:=by exact Nat.le_of_ble_eq_true rfl) (hcs:[c0,c1,c2,c3].take o++[v0,v1,v2,v3]++[c0,c1,c2,c3].drop (o+[v0,v1,v2,v3].length)=[e0,e1,e2,e3]:=by exact rfl) :
  Eff P κ N Q ⟨none,.store T x y,ty,ps,af,gd⟩ L I λL' I''=>L'=L/\I''=I':=Eff.st hT hx hy hv hl h1 hat hr hcs
theorem Ge0{L1:Env}{I1:List Item}(he:Eff P κ N Q o L I (λL' I'=>L'=L1/\I'=I1))(h:G P κ N ops Q rest L1 I1)(hw:Wanted N ops o L:=by first|exact Wanted.plain rfl|exact Wanted.on rfl rfl rfl):G P κ N ops Q (o::rest) L I:=G.eff hw he (by rintro _ _ ⟨rfl,rfl⟩;exact h)
theorem Se0{stop fuel:Nat}{listed:Array Bool}{i:Nat}{L1:Env}{I1:List Item}(hi:ops[i]? = some o)(he:Eff P κ N Q o L I (λL' I'=>L'=L1/\I'=I1))(h:D P κ N ops Q J stop fuel (listed.setIfInBounds i true) L1 I1)(hw:Wanted N ops o L:=by first|exact Wanted.plain rfl|exact Wanted.on rfl rfl rfl)(hf:Fit κ I1 J:=by first|((repeat (first|exact Fit.refl _|apply Fit.tail|exact Fit.appR _ _|apply Fit.appL));done)|(refine Fit.of_sublist ?_;(repeat (first|exact List.Sublist.refl _|apply List.Sublist.cons_cons|apply List.Sublist.cons|exact List.sublist_append_right _ _));done)|(refine Fit.sp ?_;(repeat (first|exact Sp.refl _|refine Sp.pick (by repeat (first|exact Pick.head _ _|apply Pick.tail|apply Pick.app)) ?_|apply Sp.skip|exact Sp.appR _ _));done)):Step P κ N ops Q J stop fuel listed L I i:=Step.eff hi hw he (by rintro _ _ ⟨rfl,rfl⟩;exact ⟨hf,h⟩)
theorem Ge1{τ:Type}{L1:τ->Env}{I1:τ->List Item}(he:Eff P κ N Q o L I (λL' I'=>∃b,L'=L1 b/\I'=I1 b))(h:∀b,G P κ N ops Q rest (L1 b) (I1 b))(hw:Wanted N ops o L:=by first|exact Wanted.plain rfl|exact Wanted.on rfl rfl rfl):G P κ N ops Q (o::rest) L I:=G.eff hw he (by rintro _ _ ⟨b,rfl,rfl⟩;exact h b)
theorem Se1{stop fuel:Nat}{listed:Array Bool}{i:Nat}{τ:Type}{L1:τ->Env}{I1:τ->List Item}(hi:ops[i]? = some o)(he:Eff P κ N Q o L I (λL' I'=>∃b,L'=L1 b/\I'=I1 b))(h:∀b,D P κ N ops Q J stop fuel (listed.setIfInBounds i true) (L1 b) (I1 b))(hw:Wanted N ops o L:=by first|exact Wanted.plain rfl|exact Wanted.on rfl rfl rfl)(hf:∀b,Fit κ (I1 b) J:=by intros;first|((repeat (first|exact Fit.refl _|apply Fit.tail|exact Fit.appR _ _|apply Fit.appL));done)|(refine Fit.of_sublist ?_;(repeat (first|exact List.Sublist.refl _|apply List.Sublist.cons_cons|apply List.Sublist.cons|exact List.sublist_append_right _ _));done)|(refine Fit.sp ?_;(repeat (first|exact Sp.refl _|refine Sp.pick (by repeat (first|exact Pick.head _ _|apply Pick.tail|apply Pick.app)) ?_|apply Sp.skip|exact Sp.appR _ _));done)):Step P κ N ops Q J stop fuel listed L I i:=Step.eff hi hw he (by rintro _ _ ⟨b,rfl,rfl⟩;exact ⟨hf b,h b⟩)
theorem Ge2{τ τ1:Type}{L1:τ->τ1->Env}{I1:τ->τ1->List Item}(he:Eff P κ N Q o L I (λL' I'=>∃b c,L'=L1 b c/\I'=I1 b c))(h:∀b c,G P κ N ops Q rest (L1 b c) (I1 b c))(hw:Wanted N ops o L:=by first|exact Wanted.plain rfl|exact Wanted.on rfl rfl rfl):G P κ N ops Q (o::rest) L I:=G.eff hw he (by rintro _ _ ⟨b,c,rfl,rfl⟩;exact h b c)
theorem Se2{stop fuel:Nat}{listed:Array Bool}{i:Nat}{τ τ1:Type}{L1:τ->τ1->Env}{I1:τ->τ1->List Item}(hi:ops[i]? = some o)(he:Eff P κ N Q o L I (λL' I'=>∃b c,L'=L1 b c/\I'=I1 b c))(h:∀b c,D P κ N ops Q J stop fuel (listed.setIfInBounds i true) (L1 b c) (I1 b c))(hw:Wanted N ops o L:=by first|exact Wanted.plain rfl|exact Wanted.on rfl rfl rfl)(hf:∀b c,Fit κ (I1 b c) J:=by intros;first|((repeat (first|exact Fit.refl _|apply Fit.tail|exact Fit.appR _ _|apply Fit.appL));done)|(refine Fit.of_sublist ?_;(repeat (first|exact List.Sublist.refl _|apply List.Sublist.cons_cons|apply List.Sublist.cons|exact List.sublist_append_right _ _));done)|(refine Fit.sp ?_;(repeat (first|exact Sp.refl _|refine Sp.pick (by repeat (first|exact Pick.head _ _|apply Pick.tail|apply Pick.app)) ?_|apply Sp.skip|exact Sp.appR _ _));done)):Step P κ N ops Q J stop fuel listed L I i:=Step.eff hi hw he (by rintro _ _ ⟨b,c,rfl,rfl⟩;exact ⟨hf b c,h b c⟩)
theorem Gc0{dd:Nat}{v0:Value}{I1:List Item}(he:Eff P κ N Q o L I (λL' I'=>∃v J',(v=v0/\I1=J')/\L'=(dd,v)::L/\J'=I'))(h:G P κ N ops Q rest ((dd,v0)::L) I1)(hw:Wanted N ops o L:=by first|exact Wanted.plain rfl|exact Wanted.on rfl rfl rfl):G P κ N ops Q (o::rest) L I:=G.eff hw he (by rintro _ _ ⟨_,_,⟨rfl,rfl⟩,rfl,rfl⟩;exact h)
theorem Sc0{stop fuel:Nat}{listed:Array Bool}{i:Nat}{dd:Nat}{v0:Value}{I1:List Item}(hi:ops[i]? = some o)(he:Eff P κ N Q o L I (λL' I'=>∃v J',(v=v0/\I1=J')/\L'=(dd,v)::L/\J'=I'))(h:D P κ N ops Q J stop fuel (listed.setIfInBounds i true) ((dd,v0)::L) I1)(hw:Wanted N ops o L:=by first|exact Wanted.plain rfl|exact Wanted.on rfl rfl rfl)(hf:Fit κ I1 J:=by first|((repeat (first|exact Fit.refl _|apply Fit.tail|exact Fit.appR _ _|apply Fit.appL));done)|(refine Fit.of_sublist ?_;(repeat (first|exact List.Sublist.refl _|apply List.Sublist.cons_cons|apply List.Sublist.cons|exact List.sublist_append_right _ _));done)|(refine Fit.sp ?_;(repeat (first|exact Sp.refl _|refine Sp.pick (by repeat (first|exact Pick.head _ _|apply Pick.tail|apply Pick.app)) ?_|apply Sp.skip|exact Sp.appR _ _));done)):Step P κ N ops Q J stop fuel listed L I i:=Step.eff hi hw he (by rintro _ _ ⟨_,_,⟨rfl,rfl⟩,rfl,rfl⟩;exact ⟨hf,h⟩)
theorem Gc1{dd:Nat}{v0:Value}{I1:List Item}(he:Eff P κ N Q o L I (λL' I'=>∃v J',(v=v0/\J'=I1)/\L'=(dd,v)::L/\J'=I'))(h:G P κ N ops Q rest ((dd,v0)::L) I1)(hw:Wanted N ops o L:=by first|exact Wanted.plain rfl|exact Wanted.on rfl rfl rfl):G P κ N ops Q (o::rest) L I:=G.eff hw he (by rintro _ _ ⟨_,_,⟨rfl,rfl⟩,rfl,rfl⟩;exact h)
theorem Gc2{τ τ1:Type}{dd:Nat}{v0:τ->τ1->Value}{I1:τ->τ1->List Item}(he:Eff P κ N Q o L I (λL' I'=>∃v J',(∃b c,v=v0 b c/\J'=I1 b c)/\L'=(dd,v)::L/\J'=I'))(h:∀b c,G P κ N ops Q rest ((dd,v0 b c)::L) (I1 b c))(hw:Wanted N ops o L:=by first|exact Wanted.plain rfl|exact Wanted.on rfl rfl rfl):G P κ N ops Q (o::rest) L I:=G.eff hw he (by rintro _ _ ⟨_,_,⟨b,c,rfl,rfl⟩,rfl,rfl⟩;exact h b c)
theorem Sc2{stop fuel:Nat}{listed:Array Bool}{i:Nat}{τ τ1:Type}{dd:Nat}{v0:τ->τ1->Value}{I1:τ->τ1->List Item}(hi:ops[i]? = some o)(he:Eff P κ N Q o L I (λL' I'=>∃v J',(∃b c,v=v0 b c/\J'=I1 b c)/\L'=(dd,v)::L/\J'=I'))(h:∀b c,D P κ N ops Q J stop fuel (listed.setIfInBounds i true) ((dd,v0 b c)::L) (I1 b c))(hw:Wanted N ops o L:=by first|exact Wanted.plain rfl|exact Wanted.on rfl rfl rfl)(hf:∀b c,Fit κ (I1 b c) J:=by intros;first|((repeat (first|exact Fit.refl _|apply Fit.tail|exact Fit.appR _ _|apply Fit.appL));done)|(refine Fit.of_sublist ?_;(repeat (first|exact List.Sublist.refl _|apply List.Sublist.cons_cons|apply List.Sublist.cons|exact List.sublist_append_right _ _));done)|(refine Fit.sp ?_;(repeat (first|exact Sp.refl _|refine Sp.pick (by repeat (first|exact Pick.head _ _|apply Pick.tail|apply Pick.app)) ?_|apply Sp.skip|exact Sp.appR _ _));done)):Step P κ N ops Q J stop fuel listed L I i:=Step.eff hi hw he (by rintro _ _ ⟨_,_,⟨b,c,rfl,rfl⟩,rfl,rfl⟩;exact ⟨hf b c,h b c⟩)
theorem Dz{stop fuel:Nat}{listed:Array Bool}(h:V κ N Q .normal L I)(hr:Region.ready .any ops listed=[]:=by kernel_rfl):D P κ N ops Q J stop fuel listed L I:=D.done hr h
theorem Ce0{f:FuncId}{fn:Func}{c:Code}{n:Nat}{Post:Value->List Item->Prop}(hf:P.funcs[f]? = some fn)(hb:fn.body=some c)(hN:fn.ntmps=n)(h:W P κ ⟨n,[]⟩ c (bodyPost P fn (RetR κ Post)) [] I)(hl:Nat.ble 0 n=true:=by exact rfl):eu P κ f [] I Post:=eu.enter hf hb hN hl rfl h
theorem Ce1{f:FuncId}{fn:Func}{c:Code}{n:Nat}{v0:Value}{Post:Value->List Item->Prop}(hf:P.funcs[f]? = some fn)(hb:fn.body=some c)(hN:fn.ntmps=n)(h:W P κ ⟨n,[]⟩ c (bodyPost P fn (RetR κ Post)) [(0,v0)] I)(hl:Nat.ble 1 n=true:=by exact rfl):eu P κ f [v0] I Post:=eu.enter hf hb hN hl rfl h
theorem Ce2{f:FuncId}{fn:Func}{c:Code}{n:Nat}{v0 v1:Value}{Post:Value->List Item->Prop}(hf:P.funcs[f]? = some fn)(hb:fn.body=some c)(hN:fn.ntmps=n)(h:W P κ ⟨n,[]⟩ c (bodyPost P fn (RetR κ Post)) [(0,v0),(1,v1)] I)(hl:Nat.ble 2 n=true:=by exact rfl):eu P κ f [v0,v1] I Post:=eu.enter hf hb hN hl rfl h
theorem Ce3{f:FuncId}{fn:Func}{c:Code}{n:Nat}{v0 v1 v2:Value}{Post:Value->List Item->Prop}(hf:P.funcs[f]? = some fn)(hb:fn.body=some c)(hN:fn.ntmps=n)(h:W P κ ⟨n,[]⟩ c (bodyPost P fn (RetR κ Post)) [(0,v0),(1,v1),(2,v2)] I)(hl:Nat.ble 3 n=true:=by exact rfl):eu P κ f [v0,v1,v2] I Post:=eu.enter hf hb hN hl rfl h
theorem Ce4{f:FuncId}{fn:Func}{c:Code}{n:Nat}{v0 v1 v2 v3:Value}{Post:Value->List Item->Prop}(hf:P.funcs[f]? = some fn)(hb:fn.body=some c)(hN:fn.ntmps=n)(h:W P κ ⟨n,[]⟩ c (bodyPost P fn (RetR κ Post)) [(0,v0),(1,v1),(2,v2),(3,v3)] I)(hl:Nat.ble 4 n=true:=by exact rfl):eu P κ f [v0,v1,v2,v3] I Post:=eu.enter hf hb hN hl rfl h
theorem Ce5{f:FuncId}{fn:Func}{c:Code}{n:Nat}{v0 v1 v2 v3 v4:Value}{Post:Value->List Item->Prop}(hf:P.funcs[f]? = some fn)(hb:fn.body=some c)(hN:fn.ntmps=n)(h:W P κ ⟨n,[]⟩ c (bodyPost P fn (RetR κ Post)) [(0,v0),(1,v1),(2,v2),(3,v3),(4,v4)] I)(hl:Nat.ble 5 n=true:=by exact rfl):eu P κ f [v0,v1,v2,v3,v4] I Post:=eu.enter hf hb hN hl rfl h
theorem S1{v1:Value}(k1:Nat)(h1:look L k1=some v1):Sub L [(k1,v1)]:= .cons h1 .nil
theorem S2{v1 v2:Value}(k1 k2:Nat)(h1:look L k1=some v1)(h2:look L k2=some v2):Sub L [(k1,v1),(k2,v2)]:= .cons h1 (.cons h2 .nil)
theorem S3{v1 v2 v3:Value}(k1 k2 k3:Nat)(h1:look L k1=some v1)(h2:look L k2=some v2)(h3:look L k3=some v3):Sub L [(k1,v1),(k2,v2),(k3,v3)]:= .cons h1 (.cons h2 (.cons h3 .nil))
theorem S4{v1 v2 v3 v4:Value}(k1 k2 k3 k4:Nat)(h1:look L k1=some v1)(h2:look L k2=some v2)(h3:look L k3=some v3)(h4:look L k4=some v4):Sub L [(k1,v1),(k2,v2),(k3,v3),(k4,v4)]:= .cons h1 (.cons h2 (.cons h3 (.cons h4 .nil)))
theorem S5{v1 v2 v3 v4 v5:Value}(k1 k2 k3 k4 k5:Nat)(h1:look L k1=some v1)(h2:look L k2=some v2)(h3:look L k3=some v3)(h4:look L k4=some v4)(h5:look L k5=some v5):Sub L [(k1,v1),(k2,v2),(k3,v3),(k4,v4),(k5,v5)]:= .cons h1 (.cons h2 (.cons h3 (.cons h4 (.cons h5 .nil))))
theorem S6{v1 v2 v3 v4 v5 v6:Value}(k1 k2 k3 k4 k5 k6:Nat)(h1:look L k1=some v1)(h2:look L k2=some v2)(h3:look L k3=some v3)(h4:look L k4=some v4)(h5:look L k5=some v5)(h6:look L k6=some v6):Sub L [(k1,v1),(k2,v2),(k3,v3),(k4,v4),(k5,v5),(k6,v6)]:= .cons h1 (.cons h2 (.cons h3 (.cons h4 (.cons h5 (.cons h6 .nil)))))
theorem S7{v1 v2 v3 v4 v5 v6 v7:Value}(k1 k2 k3 k4 k5 k6 k7:Nat)(h1:look L k1=some v1)(h2:look L k2=some v2)(h3:look L k3=some v3)(h4:look L k4=some v4)(h5:look L k5=some v5)(h6:look L k6=some v6)(h7:look L k7=some v7):Sub L [(k1,v1),(k2,v2),(k3,v3),(k4,v4),(k5,v5),(k6,v6),(k7,v7)]:= .cons h1 (.cons h2 (.cons h3 (.cons h4 (.cons h5 (.cons h6 (.cons h7 .nil))))))
theorem S8{v1 v2 v3 v4 v5 v6 v7 v8:Value}(k1 k2 k3 k4 k5 k6 k7 k8:Nat)(h1:look L k1=some v1)(h2:look L k2=some v2)(h3:look L k3=some v3)(h4:look L k4=some v4)(h5:look L k5=some v5)(h6:look L k6=some v6)(h7:look L k7=some v7)(h8:look L k8=some v8):Sub L [(k1,v1),(k2,v2),(k3,v3),(k4,v4),(k5,v5),(k6,v6),(k7,v7),(k8,v8)]:= .cons h1 (.cons h2 (.cons h3 (.cons h4 (.cons h5 (.cons h6 (.cons h7 (.cons h8 .nil)))))))
theorem S9{v1 v2 v3 v4 v5 v6 v7 v8 v9:Value}(k1 k2 k3 k4 k5 k6 k7 k8 k9:Nat)(h1:look L k1=some v1)(h2:look L k2=some v2)(h3:look L k3=some v3)(h4:look L k4=some v4)(h5:look L k5=some v5)(h6:look L k6=some v6)(h7:look L k7=some v7)(h8:look L k8=some v8)(h9:look L k9=some v9):Sub L [(k1,v1),(k2,v2),(k3,v3),(k4,v4),(k5,v5),(k6,v6),(k7,v7),(k8,v8),(k9,v9)]:= .cons h1 (.cons h2 (.cons h3 (.cons h4 (.cons h5 (.cons h6 (.cons h7 (.cons h8 (.cons h9 .nil))))))))
theorem S10{v1 v2 v3 v4 v5 v6 v7 v8 v9 v10:Value}(k1 k2 k3 k4 k5 k6 k7 k8 k9 k10:Nat)(h1:look L k1=some v1)(h2:look L k2=some v2)(h3:look L k3=some v3)(h4:look L k4=some v4)(h5:look L k5=some v5)(h6:look L k6=some v6)(h7:look L k7=some v7)(h8:look L k8=some v8)(h9:look L k9=some v9)(h10:look L k10=some v10):Sub L [(k1,v1),(k2,v2),(k3,v3),(k4,v4),(k5,v5),(k6,v6),(k7,v7),(k8,v8),(k9,v9),(k10,v10)]:= .cons h1 (.cons h2 (.cons h3 (.cons h4 (.cons h5 (.cons h6 (.cons h7 (.cons h8 (.cons h9 (.cons h10 .nil)))))))))
theorem S11{v1 v2 v3 v4 v5 v6 v7 v8 v9 v10 v11:Value}(k1 k2 k3 k4 k5 k6 k7 k8 k9 k10 k11:Nat)(h1:look L k1=some v1)(h2:look L k2=some v2)(h3:look L k3=some v3)(h4:look L k4=some v4)(h5:look L k5=some v5)(h6:look L k6=some v6)(h7:look L k7=some v7)(h8:look L k8=some v8)(h9:look L k9=some v9)(h10:look L k10=some v10)(h11:look L k11=some v11):Sub L [(k1,v1),(k2,v2),(k3,v3),(k4,v4),(k5,v5),(k6,v6),(k7,v7),(k8,v8),(k9,v9),(k10,v10),(k11,v11)]:= .cons h1 (.cons h2 (.cons h3 (.cons h4 (.cons h5 (.cons h6 (.cons h7 (.cons h8 (.cons h9 (.cons h10 (.cons h11 .nil))))))))))
theorem S12{v1 v2 v3 v4 v5 v6 v7 v8 v9 v10 v11 v12:Value}(k1 k2 k3 k4 k5 k6 k7 k8 k9 k10 k11 k12:Nat)(h1:look L k1=some v1)(h2:look L k2=some v2)(h3:look L k3=some v3)(h4:look L k4=some v4)(h5:look L k5=some v5)(h6:look L k6=some v6)(h7:look L k7=some v7)(h8:look L k8=some v8)(h9:look L k9=some v9)(h10:look L k10=some v10)(h11:look L k11=some v11)(h12:look L k12=some v12):Sub L [(k1,v1),(k2,v2),(k3,v3),(k4,v4),(k5,v5),(k6,v6),(k7,v7),(k8,v8),(k9,v9),(k10,v10),(k11,v11),(k12,v12)]:= .cons h1 (.cons h2 (.cons h3 (.cons h4 (.cons h5 (.cons h6 (.cons h7 (.cons h8 (.cons h9 (.cons h10 (.cons h11 (.cons h12 .nil)))))))))))
theorem S13{v1 v2 v3 v4 v5 v6 v7 v8 v9 v10 v11 v12 v13:Value}(k1 k2 k3 k4 k5 k6 k7 k8 k9 k10 k11 k12 k13:Nat)(h1:look L k1=some v1)(h2:look L k2=some v2)(h3:look L k3=some v3)(h4:look L k4=some v4)(h5:look L k5=some v5)(h6:look L k6=some v6)(h7:look L k7=some v7)(h8:look L k8=some v8)(h9:look L k9=some v9)(h10:look L k10=some v10)(h11:look L k11=some v11)(h12:look L k12=some v12)(h13:look L k13=some v13):Sub L [(k1,v1),(k2,v2),(k3,v3),(k4,v4),(k5,v5),(k6,v6),(k7,v7),(k8,v8),(k9,v9),(k10,v10),(k11,v11),(k12,v12),(k13,v13)]:= .cons h1 (.cons h2 (.cons h3 (.cons h4 (.cons h5 (.cons h6 (.cons h7 (.cons h8 (.cons h9 (.cons h10 (.cons h11 (.cons h12 (.cons h13 .nil))))))))))))
theorem S14{v1 v2 v3 v4 v5 v6 v7 v8 v9 v10 v11 v12 v13 v14:Value}(k1 k2 k3 k4 k5 k6 k7 k8 k9 k10 k11 k12 k13 k14:Nat)(h1:look L k1=some v1)(h2:look L k2=some v2)(h3:look L k3=some v3)(h4:look L k4=some v4)(h5:look L k5=some v5)(h6:look L k6=some v6)(h7:look L k7=some v7)(h8:look L k8=some v8)(h9:look L k9=some v9)(h10:look L k10=some v10)(h11:look L k11=some v11)(h12:look L k12=some v12)(h13:look L k13=some v13)(h14:look L k14=some v14):Sub L [(k1,v1),(k2,v2),(k3,v3),(k4,v4),(k5,v5),(k6,v6),(k7,v7),(k8,v8),(k9,v9),(k10,v10),(k11,v11),(k12,v12),(k13,v13),(k14,v14)]:= .cons h1 (.cons h2 (.cons h3 (.cons h4 (.cons h5 (.cons h6 (.cons h7 (.cons h8 (.cons h9 (.cons h10 (.cons h11 (.cons h12 (.cons h13 (.cons h14 .nil)))))))))))))
theorem S15{v1 v2 v3 v4 v5 v6 v7 v8 v9 v10 v11 v12 v13 v14 v15:Value}(k1 k2 k3 k4 k5 k6 k7 k8 k9 k10 k11 k12 k13 k14 k15:Nat)(h1:look L k1=some v1)(h2:look L k2=some v2)(h3:look L k3=some v3)(h4:look L k4=some v4)(h5:look L k5=some v5)(h6:look L k6=some v6)(h7:look L k7=some v7)(h8:look L k8=some v8)(h9:look L k9=some v9)(h10:look L k10=some v10)(h11:look L k11=some v11)(h12:look L k12=some v12)(h13:look L k13=some v13)(h14:look L k14=some v14)(h15:look L k15=some v15):Sub L [(k1,v1),(k2,v2),(k3,v3),(k4,v4),(k5,v5),(k6,v6),(k7,v7),(k8,v8),(k9,v9),(k10,v10),(k11,v11),(k12,v12),(k13,v13),(k14,v14),(k15,v15)]:= .cons h1 (.cons h2 (.cons h3 (.cons h4 (.cons h5 (.cons h6 (.cons h7 (.cons h8 (.cons h9 (.cons h10 (.cons h11 (.cons h12 (.cons h13 (.cons h14 (.cons h15 .nil))))))))))))))
theorem S16{v1 v2 v3 v4 v5 v6 v7 v8 v9 v10 v11 v12 v13 v14 v15 v16:Value}(k1 k2 k3 k4 k5 k6 k7 k8 k9 k10 k11 k12 k13 k14 k15 k16:Nat)(h1:look L k1=some v1)(h2:look L k2=some v2)(h3:look L k3=some v3)(h4:look L k4=some v4)(h5:look L k5=some v5)(h6:look L k6=some v6)(h7:look L k7=some v7)(h8:look L k8=some v8)(h9:look L k9=some v9)(h10:look L k10=some v10)(h11:look L k11=some v11)(h12:look L k12=some v12)(h13:look L k13=some v13)(h14:look L k14=some v14)(h15:look L k15=some v15)(h16:look L k16=some v16):Sub L [(k1,v1),(k2,v2),(k3,v3),(k4,v4),(k5,v5),(k6,v6),(k7,v7),(k8,v8),(k9,v9),(k10,v10),(k11,v11),(k12,v12),(k13,v13),(k14,v14),(k15,v15),(k16,v16)]:= .cons h1 (.cons h2 (.cons h3 (.cons h4 (.cons h5 (.cons h6 (.cons h7 (.cons h8 (.cons h9 (.cons h10 (.cons h11 (.cons h12 (.cons h13 (.cons h14 (.cons h15 (.cons h16 .nil)))))))))))))))
theorem S17{v1 v2 v3 v4 v5 v6 v7 v8 v9 v10 v11 v12 v13 v14 v15 v16 v17:Value}(k1 k2 k3 k4 k5 k6 k7 k8 k9 k10 k11 k12 k13 k14 k15 k16 k17:Nat)(h1:look L k1=some v1)(h2:look L k2=some v2)(h3:look L k3=some v3)(h4:look L k4=some v4)(h5:look L k5=some v5)(h6:look L k6=some v6)(h7:look L k7=some v7)(h8:look L k8=some v8)(h9:look L k9=some v9)(h10:look L k10=some v10)(h11:look L k11=some v11)(h12:look L k12=some v12)(h13:look L k13=some v13)(h14:look L k14=some v14)(h15:look L k15=some v15)(h16:look L k16=some v16)(h17:look L k17=some v17):Sub L [(k1,v1),(k2,v2),(k3,v3),(k4,v4),(k5,v5),(k6,v6),(k7,v7),(k8,v8),(k9,v9),(k10,v10),(k11,v11),(k12,v12),(k13,v13),(k14,v14),(k15,v15),(k16,v16),(k17,v17)]:= .cons h1 (.cons h2 (.cons h3 (.cons h4 (.cons h5 (.cons h6 (.cons h7 (.cons h8 (.cons h9 (.cons h10 (.cons h11 (.cons h12 (.cons h13 (.cons h14 (.cons h15 (.cons h16 (.cons h17 .nil))))))))))))))))
end
end Go.Sl
namespace Go.Sl
section
variable {α:Type}[Inhabited α]
theorem at_nat(xs:List α)(k:Nat):e_ xs k=xs.getD k default:=by simp [e_]
theorem at_get(xs:List α)(k:Nat)(h:k<xs.length):e_ xs k=xs[k]:=by simp [e_,h]
theorem at_mem{xs:List α}{i:Int}(h0:0<=i)(h:i<xs.length):e_ xs i∈xs:=by
 rw [at_eq h0 h];exact List.getElem_mem _
theorem take_at(xs:List α)(k:Nat)(h:k<xs.length):xs.take (k+1)=xs.take k++[e_ xs k]:=by
 rw [at_get xs k h,List.take_succ_eq_append_getElem h]
theorem mem_at{xs:List α}{x:α}(h:x∈xs):∃k,k<xs.length/\e_ xs k=x:=by
 obtain ⟨k,hk,he⟩:=List.mem_iff_getElem.1 h
 exact ⟨k,hk,by rw [at_get xs k hk,he]⟩
theorem not_mem_at{xs:List α}{x:α}{k:Nat}(h:∀j,j<k->e_ xs j≠x)(hk:xs.length<=k):x∉xs:=λhx=>by
 obtain ⟨j,hj,he⟩:=mem_at hx
 exact h j (by omega) he
theorem at_set(xs:List α)(i j:Int)(v:α)(hi:0<=i)(hj:0<=j)(hl:i<xs.length):e_ (xs.set i.toNat v) j=if i=j then v else e_ xs j:=by
 unfold e_
 by_cases h:i=j
 ·subst h
  have:i.toNat<xs.length:=by omega
  simp [List.getD_eq_getElem?_getD,this]
 ·have:i.toNat≠j.toNat:=by omega
  simp [List.getD_eq_getElem?_getD,h,List.getElem?_set_ne this]
theorem at_setn(xs:List α)(k j:Nat)(v:α)(hk:k<xs.length):e_ (xs.set k v) j=if k=j then v else e_ xs j:=by
 have:=at_set xs (k:Int) (j:Int) v (by omega) (by omega) (by omega)
 rw [Int.toNat_natCast] at this
 rw [this]
 by_cases h:k=j
 ·simp [h]
 ·rw [if_neg (show ¬(k:Int)=(j:Int) by omega),if_neg h]
theorem at_append_left(xs ys:List α)(k:Nat)(h:k<xs.length):e_ (xs++ys) k=e_ xs k:=by
 rw [at_get _ k (by simp;omega),at_get _ k h,List.getElem_append_left h]
theorem at_last(xs:List α)(y:α):e_ (xs++[y]) xs.length=y:=by
 rw [at_get _ _ (by simp)];simp
theorem at_rep(n:Nat)(i:Int)(d:α)(h0:0<=i)(h:i<n):e_ (List.replicate n d) i=d:=by
 rw [at_eq h0 (by simpa using h)];simp
theorem eq_rep{xs:List α}{d:α}(h:∀j,j<xs.length->e_ xs j=d):xs=List.replicate xs.length d:=by
 refine List.ext_getElem (by simp) λj h1 h2=>?_
 have:=h j h1
 rw [at_get xs j h1] at this
 simp [this]
theorem drop_at(xs:List α)(k:Nat)(h:k<xs.length):xs.drop k=e_ xs k::xs.drop (k+1):=by
 rw [at_get xs k h,List.drop_eq_getElem_cons h]
end
theorem all_succ{p:Nat->Prop}{k:Nat}(h:∀j,j<k->p j)(hk:p k):∀j,j<k+1->p j:=λj hj=>by
 rcases Nat.lt_succ_iff_lt_or_eq.1 hj with h'|h'
 ·exact h j h'
 ·subst h';exact hk
theorem all_zero{p:Nat->Prop}:∀j,j<0->p j:=λj hj=>absurd hj (Nat.not_lt_zero j)
end Go.Sl
namespace Go.Sl
structure LinO {α:Type} (lt:α->α->Prop):Prop where
 irr:∀a,¬lt a a
 tr:∀a b c,lt a b->lt b c->lt a c
 tri:∀a b,lt a b\/a=b\/lt b a
section
variable {α:Type}{lt:α->α->Prop}
theorem LinO.asymm(h:LinO lt){a b:α}(h1:lt a b):¬lt b a:=λh2=>h.irr a (h.tr a b a h1 h2)
theorem LinO.ne(h:LinO lt){a b:α}(h1:lt a b):a≠b:=λe=>by subst e;exact h.irr a h1
theorem LinO.uniq(h:LinO lt):∀{l m:List α},l.Pairwise lt->m.Pairwise lt->(∀x,x∈l↔x∈m)->l=m
 |[],[],_,_,_=>rfl
 |[],y::ys,_,_,e=>absurd ((e y).2 List.mem_cons_self) (by simp)
 |x::xs,[],_,_,e=>absurd ((e x).1 List.mem_cons_self) (by simp)
 |x::xs,y::ys,hl,hm,e=>by
  obtain ⟨hl1,hl2⟩:=List.pairwise_cons.1 hl
  obtain ⟨hm1,hm2⟩:=List.pairwise_cons.1 hm
  have hxy:x=y:=by
   rcases List.mem_cons.1 ((e x).1 List.mem_cons_self) with h1|h1
   ·exact h1
   ·rcases List.mem_cons.1 ((e y).2 List.mem_cons_self) with h2|h2
    ·exact h2.symm
    ·exact absurd (hl1 y h2) (h.asymm (hm1 x h1))
  subst hxy
  rw [h.uniq hl2 hm2 λz=>?_]
  constructor
  ·intro hz
   rcases List.mem_cons.1 ((e z).1 (List.mem_cons_of_mem _ hz)) with h1|h1
   ·subst h1;exact absurd (hl1 z hz) (h.irr z)
   ·exact h1
  ·intro hz
   rcases List.mem_cons.1 ((e z).2 (List.mem_cons_of_mem _ hz)) with h1|h1
   ·subst h1;exact absurd (hm1 z hz) (h.irr z)
   ·exact h1
variable [DecidableRel lt][DecidableEq α]
variable (lt) in
def insB:List α->α->List α
 |[],x=>[x]
 |y::ys,x=>if lt y x then y::insB ys x else if y=x then y::ys else x::y::ys
variable (lt) in
def sortB(l:List α):List α:=l.foldl (insB lt) []
theorem mem_insB(x y:α):∀l,y∈insB lt l x↔y=x\/y∈l
 |[]=>by simp [insB]
 |z::zs=>by
  simp only [insB]
  split
  ·simp only [List.mem_cons,mem_insB x y zs]
   constructor
   ·rintro (h|h|h)<;>simp [h]
   ·rintro (h|h|h)<;>simp [h]
  ·split
   ·rename_i e;subst e;simp
   ·simp
theorem LinO.insB(h:LinO lt)(x:α):∀{l:List α},l.Pairwise lt->(Sl.insB lt l x).Pairwise lt
 |[],_=>by simp [Sl.insB]
 |y::ys,hl=>by
  obtain ⟨hl1,hl2⟩:=List.pairwise_cons.1 hl
  simp only [Sl.insB]
  split
  ·rename_i hyx
   refine List.pairwise_cons.2 ⟨λz hz=>?_,h.insB x hl2⟩
   rcases (mem_insB x z ys).1 hz with rfl|hz
   ·exact hyx
   ·exact hl1 z hz
  ·rename_i hyx
   split
   ·exact hl
   ·rename_i hne
    have hxy:lt x y:=by
     rcases h.tri x y with h1|h1|h1
     ·exact h1
     ·exact absurd h1.symm hne
     ·exact absurd h1 hyx
    refine List.pairwise_cons.2 ⟨λz hz=>?_,hl⟩
    rcases List.mem_cons.1 hz with rfl|hz
    ·exact hxy
    ·exact h.tr _ _ _ hxy (hl1 z hz)
theorem LinO.foldB(h:LinO lt):∀(l acc:List α),acc.Pairwise lt->(l.foldl (Sl.insB lt) acc).Pairwise lt
 |[],acc,ha=>ha
 |x::l,acc,ha=>h.foldB l _ (h.insB x ha)
theorem LinO.sortB(h:LinO lt)(l:List α):(Sl.sortB lt l).Pairwise lt:=h.foldB l [] List.Pairwise.nil
end
section
variable {α:Type}{lt:α->α->Prop}[Inhabited α]
theorem pairwise_at(l:List α):l.Pairwise lt↔∀i j:Nat,i<j->j<l.length->lt (e_ l i) (e_ l j):=by
 rw [List.pairwise_iff_getElem]
 constructor
 ·intro h i j hij hj
  rw [at_get l i (by omega),at_get l j hj];exact h i j (by omega) hj hij
 ·intro h i j hi hj hij
  have:=h i j hij hj
  rwa [at_get l i (by omega),at_get l j hj] at this
theorem pairwise_next(htr:∀a b c,lt a b->lt b c->lt a c){l:List α}(h:∀i:Nat,i+1<l.length->lt (e_ l i) (e_ l ((i+1:Nat):Int))):l.Pairwise lt:=by
 rw [pairwise_at]
 intro i j hij
 induction j with
 |zero=>omega
 |succ j ih=>
  intro hj
  by_cases e:i=j
  ·subst e;exact h i hj
  ·exact htr _ _ _ (ih (by omega) (by omega)) (h j hj)
end
structure Pt where
 u:Int
 v:Int
deriving Inhabited,DecidableEq
instance:Enc Pt:=⟨λa=>[e7 a.u,e7 a.v],2,by omega,λ_=>rfl,λa x h=>by
 simp only [List.mem_cons,List.not_mem_nil,or_false] at h
 rcases h with rfl|rfl<;>rfl⟩
def Pt.lt(a b:Pt):Prop:=a.u<b.u\/(a.u=b.u/\a.v<b.v)
instance:DecidableRel Pt.lt:=λa b=>by unfold Pt.lt;infer_instance
theorem Pt.lin:LinO Pt.lt where
 irr a h:=by unfold Pt.lt at h;omega
 tr a b c h1 h2:=by unfold Pt.lt at *; omega
 tri a b:=by
  unfold Pt.lt
  by_cases h:a=b
  ·exact .inr (.inl h)
  ·have:¬(a.u=b.u/\a.v=b.v):=λe=>h (by cases a;cases b;simp_all)
   omega
theorem Pt.ext_iff'(a b:Pt):a=b↔a.u=b.u/\a.v=b.v:=by
 constructor
 ·rintro rfl;exact ⟨rfl,rfl⟩
 ·intro e;cases a;cases b;simp_all
def Pt.cmp(a b:Pt):Int:=if a.u<b.u then -1 else if b.u<a.u then 1 else if a.v<b.v then -1 else if b.v<a.v then 1 else 0
theorem Pt.cmp_lt(a b:Pt):Pt.cmp a b<0↔Pt.lt a b:=by unfold Pt.cmp Pt.lt;split<;>(try split)<;>(try split)<;>(try split)<;>omega
abbrev AscP(l:List Pt):Prop:=l.Pairwise Pt.lt
end Go.Sl
namespace Go.Sl
section
variable {α:Type}(bad:α->Int)(lt:α->α->Prop)[DecidableRel lt]
def prevAt[Inhabited α](xs:List α)(k:Nat):Option α:=if k=0 then none else some (e_ xs ((k:Int) - 1))
def scanL:Option α->List α->Int
 |_,[]=>0
 |none,p::ps=>if bad p≠0 then bad p else scanL (some p) ps
 |some q,p::ps=>if bad p≠0 then bad p else if lt q p then scanL (some p) ps else 5
variable {bad lt}[Inhabited α]{xs:List α}{k:Nat}
theorem prevAt_succ:prevAt xs (k+1)=some (e_ xs k):=by
 unfold prevAt;rw [if_neg (by omega)];congr 2;omega
theorem scanL_step(hk:k<xs.length)(h1:bad (e_ xs k)=0)(h2:0<k->lt (e_ xs ((k:Int) - 1)) (e_ xs k)) :
  scanL bad lt (prevAt xs k) (xs.drop k)=scanL bad lt (prevAt xs (k+1)) (xs.drop (k+1)):=by
 rw [drop_at xs k hk,prevAt_succ]
 unfold prevAt
 split
 ·simp only [scanL];rw [if_neg (by simp [h1])]
 ·simp only [scanL];rw [if_neg (by simp [h1]),if_pos (h2 (by omega))]
theorem scanL_bad(hk:k<xs.length)(h1:bad (e_ xs k)≠0):scanL bad lt (prevAt xs k) (xs.drop k)=bad (e_ xs k):=by
 rw [drop_at xs k hk]
 unfold prevAt
 split
 ·simp only [scanL];rw [if_pos h1]
 ·simp only [scanL];rw [if_pos h1]
theorem scanL_order(hk:k<xs.length)(h1:bad (e_ xs k)=0)(h0:0<k)(h2:¬lt (e_ xs ((k:Int) - 1)) (e_ xs k)):scanL bad lt (prevAt xs k) (xs.drop k)=5:=by
 rw [drop_at xs k hk]
 unfold prevAt
 rw [if_neg (by omega)]
 simp only [scanL];rw [if_neg (by simp [h1]),if_neg h2]
theorem scanL_end(hk:xs.length<=k):scanL bad lt (prevAt xs k) (xs.drop k)=0:=by
 rw [List.drop_eq_nil_of_le hk]
 cases prevAt xs k<;>rfl
theorem scanL_zero_some(hlt:LinO lt):∀(xs:List α) (q:α),scanL bad lt (some q) xs=0↔(∀x∈xs,bad x=0)/\(q::xs).Pairwise lt
 |[],q=>by simp [scanL]
 |p::ps,q=>by
  simp only [scanL]
  by_cases h1:bad p=0
  ·rw [if_neg (by simp [h1])]
   by_cases h2:lt q p
   ·rw [if_pos h2,scanL_zero_some hlt ps p]
    constructor
    ·rintro ⟨a,b⟩
     refine ⟨λx hx=>?_,List.pairwise_cons.2 ⟨λx hx=>?_,b⟩⟩
     ·rcases List.mem_cons.1 hx with rfl|hx
      ·exact h1
      ·exact a x hx
     ·rcases List.mem_cons.1 hx with rfl|hx
      ·exact h2
      ·exact hlt.tr _ _ _ h2 ((List.pairwise_cons.1 b).1 x hx)
    ·rintro ⟨a,b⟩
     exact ⟨λx hx=>a x (List.mem_cons_of_mem _ hx),(List.pairwise_cons.1 b).2⟩
   ·rw [if_neg h2]
    refine ⟨λh=>by simp at h,λh=>absurd ((List.pairwise_cons.1 h.2).1 p List.mem_cons_self) h2⟩
  ·rw [if_pos h1]
   exact ⟨λh=>absurd h h1,λh=>h.1 p List.mem_cons_self⟩
theorem scanL_zero(hlt:LinO lt)(xs:List α):scanL bad lt none xs=0↔(∀x∈xs,bad x=0)/\xs.Pairwise lt:=by
 cases xs with
 |nil=>simp [scanL]
 |cons p ps=>
  simp only [scanL]
  by_cases h1:bad p=0
  ·rw [if_neg (by simp [h1]),scanL_zero_some hlt]
   constructor
   ·rintro ⟨a,b⟩
    refine ⟨λx hx=>?_,b⟩
    rcases List.mem_cons.1 hx with rfl|hx
    ·exact h1
    ·exact a x hx
   ·rintro ⟨a,b⟩
    exact ⟨λx hx=>a x (List.mem_cons_of_mem _ hx),b⟩
  ·rw [if_pos h1]
   exact ⟨λh=>absurd h h1,λh=>h.1 p List.mem_cons_self⟩
end
end Go.Sl
namespace Go.Sl
def sumN:Nat->(Nat->Int)->Int
 |0,_=>0
 |m+1,g=>sumN m g+g m
theorem sumN_congr:∀(m:Nat) {g h:Nat->Int},(∀k,k<m->g k=h k)->sumN m g=sumN m h
 |0,_,_,_=>rfl
 |m+1,g,h,e=>by simp only [sumN];rw [sumN_congr m (λk hk=>e k (by omega)),e m (by omega)]
theorem sumN_add:∀(m:Nat) (g h:Nat->Int),sumN m (λk=>g k+h k)=sumN m g+sumN m h
 |0,_,_=>rfl
 |m+1,g,h=>by simp only [sumN];rw [sumN_add m];omega
theorem sumN_sub:∀(m:Nat) (g h:Nat->Int),sumN m (λk=>g k - h k)=sumN m g - sumN m h
 |0,_,_=>rfl
 |m+1,g,h=>by simp only [sumN];rw [sumN_sub m];omega
theorem sumN_zero:∀(m:Nat),sumN m (λ_=>0)=0
 |0=>rfl
 |m+1=>by simp only [sumN];rw [sumN_zero m];rfl
theorem sumN_eq_zero(m:Nat){g:Nat->Int}(h:∀k,k<m->g k=0):sumN m g=0:=by rw [sumN_congr m h,sumN_zero]
theorem sumN_le:∀(m:Nat) {g h:Nat->Int},(∀k,k<m->g k<=h k)->sumN m g<=sumN m h
 |0,_,_,_=>Int.le_refl _
 |m+1,g,h,e=>by
  simp only [sumN]
  have:=sumN_le m (g:=g) (h:=h) λk hk=>e k (by omega)
  have:=e m (by omega)
  omega
theorem sumN_swap(m p:Nat)(g:Nat->Nat->Int):sumN m (λi=>sumN p (λj=>g i j))=sumN p (λj=>sumN m (λi=>g i j)):=by
 induction m with
 |zero=>simp only [sumN];rw [sumN_zero]
 |succ m ih=>simp only [sumN];rw [ih,←sumN_add]
theorem sumN_at{m k:Nat}(hk:k<m)(c:Int):sumN m (λj=>if j=k then c else 0)=c:=by
 induction m with
 |zero=>omega
 |succ m ih=>
  simp only [sumN]
  by_cases h:k=m
  ·subst h
   rw [sumN_eq_zero k λj hj=>by rw [if_neg (by omega)],if_pos rfl];omega
  ·rw [ih (by omega),if_neg (by omega)];omega
theorem sumN_upd{m k:Nat}(hk:k<m){g h:Nat->Int}(e:∀j,j<m->j≠k->h j=g j):sumN m h=sumN m g+(h k - g k):=by
 have h1:sumN m h=sumN m (λj=>g j+if j=k then h k - g k else 0):=sumN_congr m λj hj=>by
  by_cases hjk:j=k
  ·subst hjk;simp;omega
  ·rw [if_neg hjk,e j hj hjk];omega
 rw [h1,sumN_add,sumN_at hk]
theorem sumN_eq_terms:∀(m:Nat) {g h:Nat->Int},(∀k,k<m->g k<=h k)->sumN m g=sumN m h->∀k,k<m->g k=h k
 |0,_,_,_,_=>λk hk=>absurd hk (Nat.not_lt_zero k)
 |m+1,g,h,e,he=>by
  simp only [sumN] at he
  have h1:=sumN_le m (g:=g) (h:=h) λk hk=>e k (by omega)
  have h2:=e m (by omega)
  intro k hk
  by_cases hkm:k=m
  ·subst hkm;omega
  ·exact sumN_eq_terms m (λk hk=>e k (by omega)) (by omega) k (by omega)
end Go.Sl
namespace Go.Sl
open Go.RowKit (Below)
def EqT(P:Program)(T:TypeId)(α:Type)[Enc α][DecidableEq α]:Prop:=
 (∀(x y:α) (w:World),(Op.equalIn 10000 T (.agg (Enc.enc x).toArray) (.agg (Enc.enc y).toArray)).run P w = .ok (decide (x=y)) w)/\P.eqGuardType P.depth T=false
section
variable {P:Program}{κ:Ctx}{N:Frm}{Q:Exit->Act->World->Prop}{L:Env}{I J:List Item}
variable {d:Option Tmp}{ty:TypeId}{ps:String}{af:Array Edge}{gd:Option (Nat×Bool)}
theorem Runs.idxArr{x y:Operand}{T E n b o sz by':Nat}{ag:Bool}{z:List Value}{i:Int}(ht:P.underlying T=some (.array n E))(hE:tyF P E=some (sz,ag,by',z))(hx:er L x=some (.pointer (some ⟨b,o,none⟩)))
  (hy:er L y=some (e7 i)) (h0:0<=i) (hn:i<n):Runs P κ N ⟨d,.indexAddr T x y,ty,ps,af,gd⟩ L J (.pointer (some ⟨b,o+i.toNat*sz,none⟩)):=
 λa w ha hs=>by
  simp [execOp,ha.eval hx,ha.eval hy,Instr.indexAt,asIntOf,run_underlying ht,h0,hn,run_sizeOf hE,Instr.sureAddr,addr_add]
theorem Runs.eqlT{α:Type}[Enc α][DecidableEq α]{x y:Operand}{T U:TypeId}{a b:α}(h:EqT P T α)(hx:er L x=some (.agg (Enc.enc a).toArray))(hy:er L y=some (.agg (Enc.enc b).toArray)) :
  Runs P κ N ⟨d,.binOp .eql T x y U,ty,ps,af,gd⟩ L J (.bool (decide (a=b))):=λact w ha _=>by
 have hg:=run_eqGuard_agg w .eql T x y (Enc.enc a).toArray (Enc.enc b).toArray h.2
 simp only [execOp,ha.eval hx,ha.eval hy]
 simp [hg,run_eql_struct,h.1]
theorem Runs.neqT{α:Type}[Enc α][DecidableEq α]{x y:Operand}{T U:TypeId}{a b:α}(h:EqT P T α)(hx:er L x=some (.agg (Enc.enc a).toArray))(hy:er L y=some (.agg (Enc.enc b).toArray)) :
  Runs P κ N ⟨d,.binOp .neq T x y U,ty,ps,af,gd⟩ L J (.bool (decide (a≠b))):=λact w ha _=>by
 have hg:=run_eqGuard_agg w .neq T x y (Enc.enc a).toArray (Enc.enc b).toArray h.2
 simp only [execOp,ha.eval hx,ha.eval hy]
 simp [hg,run_neq_struct,h.1]
theorem Runs.eqlb{x y:Operand}{T U:TypeId}{a b:Bool}(ht:P.underlying T=some .bool)(hx:er L x=some (.bool a))(hy:er L y=some (.bool b)):Runs P κ N ⟨d,.binOp .eql T x y U,ty,ps,af,gd⟩ L J (.bool (decide (a=b))):=
 λact w ha _=>by
  have h:=run_equalIn_bool' (P:=P) w 9999 T a b ht
  simp only [execOp,ha.eval hx,ha.eval hy,binOp]
  simp [go_sem,Op.equal,Op.maxDepth,h]
  cases a<;>cases b<;>rfl
theorem Runs.quo{x y:Operand}{T U:TypeId}{m n:Int}(hx:er L x=some (e7 m))(hy:er L y=some (e7 n))(h0:0<=m)(h1:0<n)(hr:InR m):Runs P κ N ⟨d,.binOp .quo T x y U,ty,ps,af,gd⟩ L J (e7 (m / n)):=by
 have h:=Runs.quow (P:=P) (κ:=κ) (N:=N) (J:=J) (d:=d) (ty:=ty) (ps:=ps) (af:=af) (gd:=gd) (T:=T) (U:=U) hx hy (by omega)
 have e:IntKind.i64.wrap (Int.tdiv m n)=m / n:=by
  rw [Int.tdiv_eq_ediv_of_nonneg h0]
  refine InR.wrap ?_
  have h2:m / n<=m:=Int.ediv_le_self n h0
  have h3:0<=m / n:=Int.ediv_nonneg h0 (by omega)
  unfold InR at *; omega
 rwa [e] at h
theorem Runs.buildArr{T E n sz sz' by' by'':Nat}{ag ag':Bool}{z z' cells:List Value}{parts:List (Nat×Operand)}{vs:List Value}(hT:tyF P T=some (sz,ag,by',z))(ht:P.underlying T=some (.array n E))(hE:tyF P E=some (sz',ag',by'',z'))
  (hp:evalL L (parts.map (·.2))=some vs) (hf:Instr.fill (λi=>some (i*sz',sz')) z.toArray ((parts.map (·.1)).zip vs)=some cells.toArray):Runs P κ N ⟨d,.build T parts.toArray,ty,ps,af,gd⟩ L J (.agg cells.toArray):=
 λa w ha hs=>by
  obtain ⟨zv,hz,hzc⟩:=run_zeroCells hT w
  have hpp:parts.map (λp=>(p.1,a.eval p.2))=(parts.map (·.1)).zip vs:=by
   rw [←ha.evalL hp]
   clear hp hf
   induction parts with
   |nil=>rfl
   |cons p ps ih=>simp [ih]
  have hpp':List.map (λx:Nat×Operand=>match x with |(i,x)=>(i,a.eval x)) parts=(parts.map (·.1)).zip vs:=hpp
  simp only [execOp,Instr.build,Sem.run_bind,hz,Result.andThen_ok,run_underlying ht,run_sizeOf hE,List.map_toArray,hpp',hzc,hf,Sem.run_pure]
theorem V.ret3{fn:Func}{t u s:Tmp}{v v' v'':Value}{Post:Value->List Item->Prop}(hr:fn.results = #[.tmp t,.tmp u,.tmp s])(hv:look L t=some v)(hv':look L u=some v')(hv'':look L s=some v'')(J:List Item)(hf:Fit κ I J)(hp:Post (.tuple #[v,v',v'']) J)(h0:N.ds=[]:=by rfl):V κ N (bodyPost P fn (RetR κ Post)) .ret L I:=
 λa w ha hs=>bodyPost_ret (v:= .tuple #[v,v',v'']) (by simp [results,hr,ha.get t v hv,ha.get u v' hv',ha.get s v'' hv'']) (ha.defers.trans h0) ⟨_,J,rfl,hp,hf w hs⟩
end
structure RowG (α:Type) where
 a:Option Addr
 c:Nat
 xs:List α
instance {α:Type}:Inhabited (RowG α):=⟨⟨none,0,[]⟩⟩
instance {α:Type}:Enc (RowG α):=⟨λr=>[.slice r.a r.xs.length r.c],1,by omega,λ_=>rfl,λr u hu=>by
 simp only [List.mem_cons,List.not_mem_nil,or_false] at hu
 rcases hu with rfl
 rfl⟩
end Go.Sl
namespace Go.Sl
open Go.RowKit (Below)
theorem zeroCells_one{z:Array Value}(h:∀u∈z,u.oneCell'=true)(n:Nat):∀u∈(Builtin.zeroCells z n).toList,u.oneCell'=true:=λu hu=>by
 simp only [Builtin.zeroCells,Array.toList_map,List.mem_map,Array.toList_range,List.mem_range] at hu
 obtain ⟨i,hi,rfl⟩:=hu
 have hz:0<z.size:=Nat.pos_of_ne_zero λe=>by rw [e] at hi;simp at hi
 have hm:i % z.size<z.size:=Nat.mod_lt _ hz
 rw [getElem!_pos z _ hm]
 exact h _ (Array.getElem_mem hm)
section
variable {P:Program}{κ:Ctx}{N:Frm}{Q:Exit->Act->World->Prop}{L:Env}{I J:List Item}
variable {d:Option Tmp}{ty:TypeId}{ps:String}{af:Array Edge}{gd:Option (Nat×Bool)}
variable {α:Type}[Enc α]{xs:List α}
theorem cutshort{e:TypeId}{ad:Option Addr}{n c h:Nat}(hh:h<=xs.length):∀w,(vc e (.slice ad n c) xs).ok w->(vc e (.slice ad (xs.take h).length c) (xs.take h)).ok w/\
  ∀k,(vc e (.slice ad (xs.take h).length c) (xs.take h)).fp k->(vc e (.slice ad n c) xs).fp k:=by
 intro w hw
 obtain ⟨a,cap,hv,h1,h2,h3,h4⟩:=hw
 cases hv
 refine ⟨⟨ad,c,rfl,cells_length _,by rw [List.length_take];omega,h3,λhc=>?_⟩,λk hk=>?_⟩
 ·obtain ⟨b,off,cur,rfl,hb,hsz,hcur⟩:=h4 hc
  refine ⟨b,off,cur,rfl,hb,hsz,λj u hj=>hcur j u ?_⟩
  rw [cells_take,List.getElem?_take] at hj
  split at hj
  ·exact hj
  ·cases hj
 ·obtain ⟨off,n',cap',hv,hc⟩:=hk
  simp only [Value.slice.injEq] at hv
  obtain ⟨rfl,_,rfl⟩:=hv
  exact ⟨off,_,_,rfl,hc⟩
theorem Eff.of_value0{o:Oper}{R:Env->List Item->Prop}(hd:o.dst=none)
  (h:∀a w,Ag N a L->Sep κ w I->∃v w' I',(execOp a.eval o).run P w = .ok (.value v) w'/\R L I'/\Sep κ w' I'):Eff P κ N Q o L I R:=λa w ha hs=>by
 obtain ⟨v,w',I',hr,hR,hs'⟩:=h a w ha hs
 simp only [Oper.wp,hr,Oper.upon,hd]
 exact ⟨_,_,hR,ha,hs'⟩
theorem Eff.clear{x:Operand}{t e by' k c n:Nat}{ag:Bool}{z:List Value}{ad:Option Addr}{I':List Item}(ht:P.underlying t=some (.slice e))(hT:tyF P e=some (Enc.sz α,ag,by',z))(hz:AllOne z)(hzl:z.length=Enc.sz α)
  (hx:er L x=some (.slice (adrop ad c k (Enc.sz α)) (xs.drop k).length (c - k))) (hk:k<=xs.length) (hat:At I (vc e (.slice ad n c) xs) (vc e (.slice ad (xs.take k).length c) (xs.take k)) I') :
  Eff P κ N Q ⟨none,.call {callee:= .builtin .clear,args:= #[x],argTypes:= #[t]},ty,ps,af,gd⟩ L I λL' I''=>L'=L/\I''=I':=
 Eff.of_value0 rfl λa w ha hs=>by
  have hok:=(hs.ok _ hat.mem).1
  have hok':=hok
  obtain ⟨a',cap',hv,hl,hnc,hcm,hcap⟩:=hok
  cases hv
  by_cases hkl:k=xs.length
  ·subst hkl
   refine ⟨.tuple #[],w,I',?_,⟨rfl,rfl⟩,Fit.upd hat (cutshort (Nat.le_refl _)) w hs⟩
   have e0:(xs.drop xs.length).length=0:=by simp
   rw [e0] at hx
   generalize adrop ad c xs.length (Enc.sz α)=aa at hx
   cases aa<;>simp [execOp,resolve,invoke,builtin,ha.eval hx,Builtin.clear_,run_underlying ht]
  ·have hk':k<xs.length:=by omega
   obtain ⟨b,off,cur,rfl,hb,hsize,hcur⟩:=hcap (by omega)
   obtain ⟨zv,hzv,hzc⟩:=run_zeroCells hT w
   have hm:(xs.drop k).length=xs.length - k:=List.length_drop
   have hmul:xs.length*Enc.sz α<=c*Enc.sz α:=Nat.mul_le_mul_right _ hnc
   have hmul2:k*Enc.sz α+(xs.length - k)*Enc.sz α=xs.length*Enc.sz α:=by rw [←Nat.add_mul];congr 1;omega
   have hlen:(Builtin.zeroCells zv.cells (xs.length - k)).toList.length=(xs.length - k)*Enc.sz α:=by
    rw [Array.length_toList,size_zeroCells,hzc,List.size_toArray,hzl]
   have h1:∀u∈(Builtin.zeroCells zv.cells (xs.length - k)).toList,u.oneCell'=true:=zeroCells_one (by rw [hzc];intro u hu;exact hz.all u (by simpa using hu)) _
   obtain ⟨m,hm'⟩:∃m,(xs.drop k).length=m+1:=⟨xs.length - k - 1,by omega⟩
   have hmm:xs.length - k=m+1:=by omega
   obtain ⟨Z,hZ⟩:∃Z,Z=(Builtin.zeroCells zv.cells (m+1)).toList:=⟨_,rfl⟩
   rw [hmm,←hZ] at hlen h1
   rw [hmm] at hmul2
   have hst:=run_storeCells_at P b (off+k*Enc.sz α) e Z 0 cur w hb (by rw [hlen];omega) h1
   simp only [Nat.add_zero] at hst
   have hx':er L x=some (.slice (some ⟨b,off+k*Enc.sz α,none⟩) (m+1) (c - k)):=by
    rw [hx,hm'];unfold adrop;rw [if_neg (by omega)];simp [addr_add]
   refine ⟨.tuple #[],_,I',by simp only [execOp,resolve,invoke,builtin,List.map_toArray,List.map_cons,List.map_nil,ha.eval hx'];simp [Builtin.clear_,run_underlying ht,hzv];rw [←hZ,hst];simp only [Result.andThen_ok];rfl,⟨rfl,rfl⟩,?_⟩
   refine hs.upd hat rfl ⟨rfl,Nat.le_refl _⟩ rfl (by simp) (λk' _ hne=>setRow_other w b k' _ λe=>hne (by subst e;exact ⟨off,xs.length,c,rfl,by omega⟩)) ?_ λk hk=> .inl ?_
   ·refine ⟨_,c,rfl,cells_length _,by rw [List.length_take];omega,hcm,λhc=>⟨b,off,_,rfl,setRow_heap w b cur _ e _ hb,?_,λj u' hj=>?_⟩⟩
    ·simp only [List.size_toArray,List.length_append,List.length_take,List.length_drop,hlen,Array.length_toList];omega
    ·have hjl:j<k*Enc.sz α:=by
      have:=(List.getElem?_eq_some_iff.1 hj).1
      rw [cells_length,List.length_take] at this
      have h2:min k xs.length=k:=by omega
      rw [h2] at this
      exact this
     rw [cells_take,List.getElem?_take,if_pos hjl] at hj
     have:=hcur j u' hj
     rw [List.getElem?_toArray,List.getElem?_append_left (by simp only [List.length_append,List.length_take,Array.length_toList];omega),List.getElem?_append_left (by simp only [List.length_take,Array.length_toList];omega),List.getElem?_take,if_pos (by omega)]
     simpa using this
   ·obtain ⟨off',n',c',hv',hc'⟩:=hk
    cases hv'
    exact ⟨off,xs.length,c,rfl,hc'⟩
theorem Runs.hiraw{x y:Operand}{T E sz by' n c h:Nat}{ag:Bool}{z:List Value}{ad:Option Addr}{m:Int}(ht:P.underlying T=some (.slice E))(hE:tyF P E=some (sz,ag,by',z))(hx:er L x=some (.slice ad n c))(hy:er L y=some (e7 m))(hm:m=(h:Int))
  (hh:h<=c):Runs P κ N ⟨d,.slice T x none (some y) none,ty,ps,af,gd⟩ L J (.slice ad h c):=λa w ha hs=>by
 subst hm
 have:=Runs.slice (P:=P) (κ:=κ) (N:=N) (L:=L) (J:=J) (d:=d) (ty:=ty) (ps:=ps) (af:=af) (gd:=gd) (l:=0) (h:=h) ht hE hx (.inl ⟨rfl,rfl⟩) (.inr ⟨y,rfl,hy⟩) (Nat.zero_le _) hh a w ha hs
 rw [this]
 have e:(if c=0 then ad else ad.map (λx=>x.add (0*sz)))=ad:=by
  split
  ·rfl
  ·cases ad<;>simp [Addr.add]
 rw [e]
 rfl
theorem Sl.dropn{ad:Option Addr}{n c l m:Nat}(hv:Sl κ I (.slice ad n c) xs)(hl:l<=xs.length)(hm:m=xs.length - l):Sl κ I (.slice (adrop ad c l (Enc.sz α)) m (c - l)) (xs.drop l):=by
 have h:=Sl.drop hv hl
 rw [List.length_drop,←hm] at h
 exact h
theorem vc.cap{e:TypeId}{ad:Option Addr}{n c:Nat}(h:vc e (.slice ad n c) xs∈I):∀w,Sep κ w I->xs.length<=c:=λw hs=>by
 obtain ⟨_,_,h0,_,h1,_⟩:=(Sl.vec (κ:=κ) h) w hs
 cases h0
 exact h1
theorem Runs.caps{x:Operand}{T E n c:Nat}{ad:Option Addr}(ht:P.underlying T=some (.slice E))(hx:er L x=some (.slice ad n c)) :
  Runs P κ N ⟨d,.call {callee:= .builtin .cap,args:= #[x],argTypes:= #[T]},ty,ps,af,gd⟩ L J (e7 c):=
 λa w ha hs=>by
  simp [execOp,resolve,invoke,builtin,ha.eval hx,Builtin.cap_,run_underlying ht,goInt]
def BlkRd(κ:Ctx)(I:List Item)(b:Nat)(cs:List Value)(T:TypeId):Prop:=∀w,Sep κ w I->w.heap[b]? = some (.cells cs.toArray T (0,0))
theorem BlkRd.fit{b:Nat}{cs:List Value}{T:TypeId}(h:BlkRd κ I b cs T)(hf:Fit κ J I):BlkRd κ J b cs T:=λw s=>h w (hf w s)
theorem BlkRd.of{b:Nat}{cs:List Value}{T:TypeId}(h:e8 b cs T∈I):BlkRd κ I b cs T:=λw s=>(s.ok _ h).1
theorem Runs.loadB{x:Operand}{T sz by' b o E:Nat}{z cs:List Value}{v:Value}(hT:tyF P T=some (sz,false,by',z))(hx:er L x=some (.pointer (some ⟨b,o,none⟩)))(hb:BlkRd κ J b cs E)(hc:cs[o]? = some v) :
  Runs P κ N ⟨d,.load T x,ty,ps,af,gd⟩ L J v:=
 λa w ha hs=>by
  have:=cell_blk (w:=w) (hb w hs) o
  simp [execOp,ha.eval hx,Instr.loadAt,Instr.sureAddr,run_loadVar_one hT (this.trans hc)]
theorem Runs.loadBs{x:Operand}{T sz by' b o E:Nat}{z cs vs:List Value}(hT:tyF P T=some (sz,true,by',z))(hx:er L x=some (.pointer (some ⟨b,o,none⟩)))(hb:BlkRd κ J b cs E)(hc:(cs.drop o).take sz=vs)(hl:vs.length=sz) :
  Runs P κ N ⟨d,.load T x,ty,ps,af,gd⟩ L J (.agg vs.toArray):=
 λa w ha hs=>by
  have hcell:=λj=>cell_blk (w:=w) (hb w hs) j
  have:(loadVar T ⟨b,o,none⟩).run P w = .ok (.agg vs.toArray) w:=run_loadVar_agg hT hl λj u hj=>by
   rw [addr_add,hcell,←hj,←hc,List.getElem?_take,if_pos (by have:=(List.getElem?_eq_some_iff.1 hj).1;omega),List.getElem?_drop]
  simp [execOp,ha.eval hx,Instr.loadAt,Instr.sureAddr,this]
def Says(P:Program)(κ:Ctx)(I:List Item)(g:FuncId)(caps:List Value)(p:α->Bool):Prop:=callable P g=true/\∀(x:α) (J:List Item),Fit κ J I->eu P κ g ([]++[.agg (Enc.enc x).toArray]++caps) J λr J'=>r = .bool (p x)/\J=J'
theorem Says.fit{g:FuncId}{caps:List Value}{p:α->Bool}(h:Says P κ I g caps p)(hf:Fit κ J I):Says P κ J g caps p:=⟨h.1,λx K hK=>h.2 x K (hK.trans hf)⟩
end
end Go.Sl
