/- A part of the proofs of statements of this seat: contracts of functions, and the plain laws that they lean on. No conditions. -/
import Derived.Test.YtfkcohmipjhfcaaGreatDoorA3
import Derived.Test.YtfkcohmipjhfcaaGreatDoorProg
set_option linter.unusedVariables false
set_option linter.unusedSimpArgs false
set_option linter.unusedSectionVars false
namespace Go.Sl
open Go
section
variable {P:Program}{ops:Array Oper}{Q:Exit→Act→World→Prop}{md:Region.Mode}{S:World→Prop}
def wpAnyK(P:Program)(md:Region.Mode)(ops:Array Oper)(Q:Exit→Act→World→Prop)(S:World→Prop)(stop:Nat)(K:Nat→Array Bool→Act→World→Prop):Nat→Array Bool→Act→World→Prop
 |0,listed,a,w=>Region.ready md ops listed=[]∧Q .normal a w
 |fuel+1,listed,a,w=>
  (Region.ready md ops listed=[stop]→K (fuel+1) listed a w)∧
  (Region.ready md ops listed≠[stop]→(Region.ready md ops listed=[]→Q .normal a w)∧
   ∀i∈Region.ready md ops listed,wpOp P ops Q i (fun a' w'=>S w'∧wpAnyK P md ops Q S stop K fuel (listed.setIfInBounds i true) a' w') a w)
variable {K:Nat→Array Bool→Act→World→Prop}
theorem wpAny_of_K{stop:Nat}(hK:∀fuel listed a w,K fuel listed a w→wpAny P md ops Q fuel listed a w):∀(fuel:Nat) (listed:Array Bool) (a:Act) (w:World),wpAnyK P md ops Q S stop K fuel listed a w→wpAny P md ops Q fuel listed a w
 |0,_,_,_,h=>h
 |fuel+1,listed,a,w,h=>by
  by_cases hr:Region.ready md ops listed=[stop]
  ·exact hK _ _ _ _ (h.1 hr)
  ·exact ⟨(h.2 hr).1,fun i hi=>wpOp_mono (fun a' w' h'=>wpAny_of_K hK fuel _ a' w' h'.2) ((h.2 hr).2 i hi)⟩
theorem wpAnyT_of_K{S0:World→Prop}(hS:∀w,S w→S0 w){n stop:Nat}:∀(fuel:Nat) (listed:Array Bool) (a:Act) (w:World),wpAnyK P md ops Q S stop (wpAnyT P md ops Q S0 n) fuel listed a w→wpAnyT P md ops Q S0 n fuel listed a w
 |0,_,_,_,h=>h
 |fuel+1,listed,a,w,h=>by
  by_cases hr:Region.ready md ops listed=[stop]
  ·exact h.1 hr
  ·refine ⟨fun _=>wpAny_of_K (fun _ _ _ _ h=>wpAny_of_T _ _ _ _ h) _ _ _ _ h,fun _=>⟨(h.2 hr).1,fun i hi=>wpOp_mono (fun a' w' h'=>⟨hS w' h'.1,wpAnyT_of_K hS fuel _ a' w' h'.2⟩) ((h.2 hr).2 i hi)⟩⟩
theorem wpAnyK_first{stop i:Nat}{oi:Oper}{v:Value}(hi:ops[i]? = some oi)(hsel:∀(j:Nat) (o:Oper) cs b,ops[j]? = some o→o.op ≠ .select cs b)(hne:i≠stop)(hwait:waitsFor md ops stop i=true)
  (hQ:∀c a w,Q (.panic c) (a.put oi.dst v) w→Q (.panic c) a w) :
  ∀(fuel:Nat) (listed:Array Bool) (a:Act) (w:World),
   (∀j oj,ops[j]? = some oj→j≠i→listed.getD j true=false→(∀e∈oj.after,Region.binds md e=true→e.on≠i)→oi.apart ops oj=true)→
   i∈Region.ready md ops listed→YieldsIf P ops S oi v a→S w→
   wpAnyK P md ops Q S stop K fuel (listed.setIfInBounds i true) (a.put oi.dst v) w→wpAnyK P md ops Q S stop K (fuel+1) listed a w:=by
 intro fuel
 induction fuel with
 |zero=>
  intro listed a w _ hr hy hS H
  refine ⟨fun h=>(by rw [h] at hr;exact absurd (by simpa using hr) hne),fun _=>⟨fun h=>(by rw [h] at hr;cases hr),fun j hj=>?_⟩⟩
  by_cases hji:j=i
  ·subst hji;exact hy.wpOp hi hS ⟨hS,H⟩
  ·have:=ready_mono hj hji
   rw [H.1] at this
   cases this
 |succ fuel ih=>
  intro listed a w hfree hr hy hS H
  refine ⟨fun h=>(by rw [h] at hr;exact absurd (by simpa using hr) hne),fun _=>⟨fun h=>(by rw [h] at hr;cases hr),fun j hj=>?_⟩⟩
  by_cases hji:j=i
  ·subst hji;exact hy.wpOp hi hS ⟨hS,H⟩
  ·have hjr:=ready_mono hj hji
   have hns:Region.ready md ops (listed.setIfInBounds i true)≠[stop]:=fun h=>by
    rw [h] at hjr
    obtain rfl:j=stop:=by simpa using hjr
    exact not_waits hr hj hwait
   have h1:=(H.2 hns).2 j hjr
   obtain ⟨hjun,oj,hoj,hall⟩:=mem_ready.1 hj
   have hnot:=ready_unlisted hr hj hoj
   have h2:=wpOp_putIf hoj (hfree j oj hoj hji hjun hnot) (fun cs b=>hsel i oi cs b hi) (fun cs b=>hsel j oj cs b hoj) hQ hy h1
   have hfree':∀k ok,ops[k]? = some ok→k≠i→(listed.setIfInBounds j true).getD k true=false→
     (∀e∈ok.after,Region.binds md e=true→e.on≠i)→oi.apart ops ok=true:=fun k ok hk hki hun hno=>by
    refine hfree k ok hk hki ?_ hno
    by_cases hjk:j=k
    ·subst hjk;exact hjun
    ·rw [getD_set_ne true hjk] at hun;exact hun
   refine wpOp_mono (fun a' w' h3=>⟨h3.2.1,ih (listed.setIfInBounds j true) a' w' hfree' (ready_mono hr (Ne.symm hji)) h3.1 h3.2.1 ?_⟩) h2
   rw [Array.setIfInBounds_comm _ _ hji]
   exact h3.2.2
theorem wpAnyK_take{stop i:Nat}{oi:Oper}{v:Value}{fuel:Nat}{listed:Array Bool}{a:Act}{w:World}(hi:ops[i]? = some oi)
  (hs:Region.noSelect ops=true) (hf:Region.free md ops listed i=true) (hr:(Region.ready md ops listed).contains i=true) (hne:Nat.beq i stop=false) (hwait:waitsFor md ops stop i=true)
  (hQ:∀c a w,Q (.panic c) (a.put oi.dst v) w→Q (.panic c) a w) (hy:YieldsIf P ops S oi v a) (hS:S w)
  (h:wpAnyK P md ops Q S stop K fuel (listed.setIfInBounds i true) (a.put oi.dst v) w):wpAnyK P md ops Q S stop K (fuel+1) listed a w:=
 wpAnyK_first hi (Region.noSelect_spec hs) (fun e=>by subst e;simp at hne) hwait hQ fuel listed a w (Region.free_spec hi hf) (by simpa using hr) hy hS h
end
section
variable {P:Program}{κ:Ctx}{N:Frm}{ops:Array Oper}{Q:Exit→Act→World→Prop}{I J J0:List Item}{L:Env}{o:Oper}{n:Nat}
def D2(P:Program)(κ:Ctx)(N:Frm)(ops:Array Oper)(Q:Exit→Act→World→Prop)(J0:List Item)(n:Nat)(J:List Item)(stop fuel:Nat)(listed:Array Bool)(L:Env)(I:List Item):Prop:=
 ∀a w,Ag N a L→Sep κ w I→wpAnyK P .any ops Q (fun w=>Sep κ w J) stop (wpAnyT P .any ops Q (fun w=>Sep κ w J0) n) fuel listed a w
theorem D.two{fuel:Nat}{listed:Array Bool}(J:List Item)(stop:Nat)(hf:Fit κ J J0)(h:D2 P κ N ops Q J0 n J stop fuel listed L I):D P κ N ops Q J0 n fuel listed L I:=fun a w ha hs=>wpAnyT_of_K (fun w' hw=>hf w' hw) _ _ _ _ (h a w ha hs)
theorem D2.stop{stop fuel:Nat}{listed:Array Bool}(hr:Region.ready .any ops listed=[stop])(h:D P κ N ops Q J0 n (fuel+1) listed L I):D2 P κ N ops Q J0 n J stop (fuel+1) listed L I:=
 fun a w ha hs=>⟨fun _=>h a w ha hs,fun hne=>absurd hr hne⟩
theorem D2.read{stop fuel:Nat}{listed:Array Bool}{d:Nat}{v:Value}(i:Nat)(hi:ops[i]? = some o)(hns:Region.noSelect ops=true)(hf:Region.free .any ops listed i=true)
  (hr:(Region.ready .any ops listed).contains i=true) (hne:Nat.beq i stop=false) (hwt:waitsFor .any ops stop i=true) (hQ:∀c a u w,Q (.panic c) (a.put o.dst u) w→Q (.panic c) a w) (hw:Wanted N ops o L) (hd:o.dst=some d) (hN:Nat.blt d N.n=true)
  (hJ:Fit κ I J) (hrun:Runs P κ N o L J v) (h:D2 P κ N ops Q J0 n J stop fuel (listed.setIfInBounds i true) ((d,v)::L) I):D2 P κ N ops Q J0 n J stop (fuel+1) listed L I:=fun a w ha hs=>by
 refine wpAnyK_take hi hns hf hr hne hwt (fun c a w=>hQ c a v w) (.inl ⟨hw a ha,fun w' hs'=>hrun a w' ha hs'⟩) (hJ w hs) ?_
 have ha':=ha.put d hN v
 rw [←hd] at ha'
 exact h _ w ha' hs
def Step2(P:Program)(κ:Ctx)(N:Frm)(ops:Array Oper)(Q:Exit→Act→World→Prop)(J0:List Item)(n:Nat)(J:List Item)(stop fuel:Nat)(listed:Array Bool)(L:Env)(I:List Item)(i:Nat):Prop:=
 ∀a w,Ag N a L→Sep κ w I→wpOp P ops Q i (fun a' w'=>Sep κ w' J∧wpAnyK P .any ops Q (fun w=>Sep κ w J) stop (wpAnyT P .any ops Q (fun w=>Sep κ w J0) n) fuel (listed.setIfInBounds i true) a' w') a w
theorem D2.step{stop fuel:Nat}{listed:Array Bool}{rs:List Nat}(hr:Region.ready .any ops listed=rs)(hne:rs.isEmpty=false)(hns:(rs==[stop])=false)(h:∀i∈rs,Step2 P κ N ops Q J0 n J stop fuel listed L I i):D2 P κ N ops Q J0 n J stop (fuel+1) listed L I:=
 fun a w ha hs=>⟨fun h0=>(by rw [hr] at h0;simp [h0] at hns),fun _=>⟨fun h0=>(by rw [hr] at h0;simp [h0] at hne),fun i hi=>h i (hr▸hi) a w ha hs⟩⟩
theorem Step2.eff{stop fuel:Nat}{listed:Array Bool}{i:Nat}{R:Env→List Item→Prop}(hi:ops[i]? = some o)(hw:Wanted N ops o L)(he:Eff P κ N Q o L I R)
  (h:∀L' I',R L' I'→Fit κ I' J∧D2 P κ N ops Q J0 n J stop fuel (listed.setIfInBounds i true) L' I'):Step2 P κ N ops Q J0 n J stop fuel listed L I i:=fun a w ha hs=>by
 unfold wpOp
 simp only [hi,hw a ha,if_true]
 exact .inl (Oper.wp_mono (fun a' w' ⟨L',I',hR,ha',hs'⟩=>⟨(h L' I' hR).1 w' hs',(h L' I' hR).2 a' w' ha' hs'⟩) (he a w ha hs))
end
end Go.Sl
namespace Go.Sl
open Go.Proofs
abbrev Aa:= @Runs.fieldAddr
abbrev Ab:= @Tryz.underlying22
abbrev Ac:= @Sub.cons
abbrev Ad:= @Runs.move
abbrev Af:= @G.nt
abbrev Ah:= @W.sr
abbrev Ai:= @V.then
abbrev Aj:= @V.block_normal
abbrev Ak:= @V.then_exit
abbrev Al:= @V.then_ret
abbrev Am:= @Eff.call
abbrev Ao:= @W.seq
abbrev Ap:= @Runs.pickt
abbrev Ar:= @V.block_ret
abbrev As:= @W.sub
abbrev Au:= @Runs.ld
abbrev Av:= @Runs.pickf
abbrev Aw:= @W.region
abbrev Ax:= @W.block
abbrev Ay:= @Fit.sub
abbrev Az:= @Runs.extract
abbrev A0:= @W.skip
abbrev A2:= @W.ret
abbrev A3:= @Tryz.underlying109
abbrev A4:= @Fit.m
abbrev A5:= @Eff.alloc
abbrev A6:= @V.block_hit
abbrev A7:= @V.ret1
abbrev A8:= @Runs.idx
abbrev A9:= @W.ite
abbrev Ba:= @Tryz.underlying28
abbrev Bb:= @Eff.box
abbrev Bc:= @Runs.lss
abbrev Bd:= @Runs.assign
abbrev Be:= @Runs.build
abbrev Bf:= @Sl.f
abbrev Bg:= @Wanted.plain
abbrev Bh:= @Tryz.underlying46
abbrev Bi:= @G.split
abbrev Bj:= @G.nil
abbrev Bk:= @Runs.nilCheck
abbrev Bl:= @Tryz.underlying3
abbrev Bm:= @Runs.lds
abbrev Bo:= @W.drawn
abbrev Bp:= @Tryz.underlying79
abbrev Bq:= @Sub.nil
abbrev Br:= @Sl.o
abbrev Bs:= @Runs.eql
abbrev Bt:= @W.exit
abbrev Bu:= @A.hold
abbrev Bv:= @Runs.neq
abbrev Bw:= @Runs.lens
abbrev Bx:= @W.loop
abbrev Bz:= @Runs.lenT
abbrev B0:= @Runs.gets
abbrev B1:= @Es2_2
abbrev B2:= @Runs.get
abbrev B3:= @Fit.nilvc
abbrev B4:= @CallS.pull
abbrev B5:= @Runs.gtr
abbrev B6:= @V.nx
abbrev B7:= @Fit.s
abbrev B8:= @V.block_miss
abbrev B9:= @Eff.bs
abbrev Ca:= @Eff.app
abbrev Cb:= @lookO
abbrev Cc:= @TabRd.fit
abbrev Cd:= @Runs.not
abbrev Ce:= @Tryz.underlying337
abbrev Cf:= @Tryz.underlying160
abbrev Cg:= @Runs.geq
abbrev Ch:= @Sl.fit
abbrev Ci:= @Eff.st
abbrev Cj:= @Tryz.underlying40
abbrev Ck:= @at_mem
abbrev Cl:= @W.yes
abbrev Cm:= @Fit.trans
abbrev Cn:= @CallS.fit
abbrev Co:= @Tryz.underlying64
abbrev Cp:= @Eff.make
abbrev Cq:= @Tryz.underlying175
abbrev Cr:= @Eff.callv
abbrev Cs:= @Runs.getf0
abbrev Ct:= @V.retc1
abbrev Cu:= @Tryz.underlying90
abbrev Cv:= @Wanted.on
abbrev Cw:= @V.retc
abbrev Cx:= @W.no
abbrev Cy:= @Eff.set
abbrev Cz:= @lookV
abbrev C0:= @Runs.andB
abbrev C1:= @Tryz.underlying228
abbrev C2:= @BlkRd.fit
abbrev C3:= @Eff.insertK
abbrev C4:= @D.stop
abbrev C5:= @A.done
abbrev C6:= @Tryz.underlying58
abbrev C7:= @Runs.notd
abbrev C8:= @listB_zero
abbrev C9:= @V.ret2
abbrev Da:= @Runs.loadB
abbrev Db:= @take_at
abbrev Dc:= @at_set
abbrev De:= @D.step
abbrev Df:= @Tryz.underlying301
abbrev Dg:= @Tryz.underlying181
abbrev Dh:= @scanL_bad
abbrev Di:= @sumN_congr
abbrev Dj:= @Tryz.underlying339
abbrev Dk:= @Tryz.underlying277
abbrev Dl:= @Tryz.underlying211
abbrev Dn:= @Tryz.underlying177
abbrev Do:= @Tryz.underlying108
abbrev Dp:= @D.read
abbrev Dq:= @Runs.fld
abbrev Ds:= @BlkRd.of
abbrev Dt:= @Step2.eff
abbrev Du:= @all1
abbrev Dv:= @Runs.makeFunc
abbrev Dw:= @Runs.leq
abbrev Dx:= @Es7_1
abbrev Dy:= @CallS.at
abbrev D0:= @drop_at
abbrev D1:= @D.split
abbrev D3:= @at_get
abbrev D4:= @Runs.convU
abbrev D5:= @Runs.idxArr
abbrev D6:= @Runs.getf
abbrev D7:= @at_append_left
abbrev D8:= @Runs.neB
abbrev D9:= @Runs.lookupK
abbrev Ea:= @Fit.perm
abbrev Eb:= @all2
abbrev Ec:= @lookI
abbrev Ed:= @listB_len
abbrev Ee:= @WR.region
abbrev Ef:= @Runs.shlB
abbrev Eg:= @Runs.loraw
abbrev Eh:= @GY.read
abbrev Ei:= @all_succ
abbrev Ej:= @Es6_6
abbrev Ek:= @Es2_1
abbrev El:= @Runs.lo
abbrev Em:= @Runs.andNotB
abbrev En:= @mem_listB
abbrev Eo:= @Runs.or1U
abbrev Ep:= @V.mi
abbrev Eq:= @Tryz.underlying220
abbrev Er:= @Tryz.underlying163
abbrev Es:= @Tryz.underlying102
abbrev Et:= @Runs.max
abbrev Eu:= @G.eff
abbrev Ew:= @Tryz.underlying71
abbrev Ex:= @Tryz.underlying65
abbrev Ey:= @Tryz.underlying31
abbrev Ez:= @Es5_5
abbrev E0:= @div_n1
abbrev E1:= @div_n0
abbrev E3:= @A.read
abbrev E4:= @Tryz.underlying5
abbrev E5:= @Tryz.underlying4
abbrev E6:= @Runs.shrB
abbrev E7:= @Runs.mul
abbrev E8:= @scanL_step
abbrev E9:= @D2.step
theorem kr{p:Prop}(h:p:=by kernel_rfl):p:=h
theorem dc{p:Prop}(h:p:=by decide):p:=h
theorem lcn{p:Prop}(h:p:=by simp only [List.length_cons,List.length_nil];omega):p:=h
theorem asm{p:Prop}(h:p:=by assumption):p:=h
theorem lat{p:Prop}(h:p:=by first|omega|(simp only [List.length_append,List.length_take,List.length_drop,List.length_replicate]<;>omega)):p:=h
theorem lap{p:Prop}(h:p:=by simp only [List.length_append,List.length_cons,List.length_nil];omega):p:=h
theorem olp{p:Prop}(h:p:=by first|omega|(simp only [List.length_append,List.length_cons,List.length_nil];omega)):p:=h
theorem olr{p:Prop}(h:p:=by first|omega|(simp only [List.length_replicate];omega)):p:=h
end Go.Sl
namespace Go.Sl
open Go.Proofs
theorem ty2:tyF Tryz.prog 2=some (1,false,8,[I64 (0)]):=by kernel_rfl
theorem ty3:tyF Tryz.prog 3=some (1,false,8,[I64 (0)]):=by kernel_rfl
theorem ty4:tyF Tryz.prog 4=some (1,false,1,[.bool false]):=by kernel_rfl
theorem ty5:tyF Tryz.prog 5=some (1,false,1,[.int .u8 (0)]):=by kernel_rfl
theorem ty22:tyF Tryz.prog 22=some (1,false,24,[.slice none 0 0]):=by kernel_rfl
theorem ty28:tyF Tryz.prog 28=some (1,false,24,[.slice none 0 0]):=by kernel_rfl
theorem ty31:tyF Tryz.prog 31=some (3,true,24,[I64 (0),I64 (0),I64 (0)]):=by kernel_rfl
theorem fld31_0:fldF Tryz.prog 31 0=some 0:=by kernel_rfl
theorem fld31_1:fldF Tryz.prog 31 1=some 1:=by kernel_rfl
theorem fld31_2:fldF Tryz.prog 31 2=some 2:=by kernel_rfl
theorem pl31(w:World):(placesRun Tryz.prog 31).run Tryz.prog w = .ok #[(0,1),(1,1),(2,1)] w:=by kernel_rfl
theorem ty36:tyF Tryz.prog 36=some (1,false,8,[I64 (0)]):=by kernel_rfl
theorem ty40:tyF Tryz.prog 40=some (2,true,16,[I64 (0),I64 (0)]):=by kernel_rfl
theorem fld40_0:fldF Tryz.prog 40 0=some 0:=by kernel_rfl
theorem fld40_1:fldF Tryz.prog 40 1=some 1:=by kernel_rfl
theorem pl40(w:World):(placesRun Tryz.prog 40).run Tryz.prog w = .ok #[(0,1),(1,1)] w:=by kernel_rfl
theorem ty46:tyF Tryz.prog 46=some (1,false,24,[.slice none 0 0]):=by kernel_rfl
theorem ty48:tyF Tryz.prog 48=some (2,true,32,[I64 (0),.slice none 0 0]):=by kernel_rfl
theorem fld48_0:fldF Tryz.prog 48 0=some 0:=by kernel_rfl
theorem fld48_1:fldF Tryz.prog 48 1=some 1:=by kernel_rfl
theorem pl48(w:World):(placesRun Tryz.prog 48).run Tryz.prog w = .ok #[(0,1),(1,1)] w:=by kernel_rfl
theorem ty64:tyF Tryz.prog 64=some (2,true,16,[I64 (0),I64 (0)]):=by kernel_rfl
theorem ty71:tyF Tryz.prog 71=some (7,true,72,[I64 (0),I64 (0),I64 (0),I64 (0),.slice none 0 0,I64 (0),I64 (0)]):=by kernel_rfl
theorem fld71_0:fldF Tryz.prog 71 0=some 0:=by kernel_rfl
theorem fld71_1:fldF Tryz.prog 71 1=some 1:=by kernel_rfl
theorem fld71_2:fldF Tryz.prog 71 2=some 2:=by kernel_rfl
theorem fld71_3:fldF Tryz.prog 71 3=some 3:=by kernel_rfl
theorem fld71_4:fldF Tryz.prog 71 4=some 4:=by kernel_rfl
theorem fld71_5:fldF Tryz.prog 71 5=some 5:=by kernel_rfl
theorem pl71(w:World):(placesRun Tryz.prog 71).run Tryz.prog w = .ok #[(0,1),(1,1),(2,1),(3,1),(4,1),(5,2)] w:=by kernel_rfl
theorem ty79:tyF Tryz.prog 79=some (1,false,24,[.slice none 0 0]):=by kernel_rfl
theorem ty88:tyF Tryz.prog 88=some (2,true,32,[I64 (0),.slice none 0 0]):=by kernel_rfl
theorem pl88(w:World):(placesRun Tryz.prog 88).run Tryz.prog w = .ok #[(0,1),(1,1)] w:=by kernel_rfl
theorem ty90:tyF Tryz.prog 90=some (11,true,168,[.bool false,I64 (0),I64 (0),.slice none 0 0,I64 (0),I64 (0),.slice none 0 0,.slice none 0 0,.slice none 0 0,I64 (0),.slice none 0 0]):=by kernel_rfl
theorem fld90_0:fldF Tryz.prog 90 0=some 0:=by kernel_rfl
theorem fld90_1:fldF Tryz.prog 90 1=some 1:=by kernel_rfl
theorem fld90_2:fldF Tryz.prog 90 2=some 2:=by kernel_rfl
theorem fld90_3:fldF Tryz.prog 90 3=some 3:=by kernel_rfl
theorem fld90_4:fldF Tryz.prog 90 4=some 4:=by kernel_rfl
theorem fld90_8:fldF Tryz.prog 90 8=some 9:=by kernel_rfl
theorem pl90(w:World):(placesRun Tryz.prog 90).run Tryz.prog w = .ok #[(0,1),(1,1),(2,1),(3,1),(4,2),(6,1),(7,1),(8,1),(9,2)] w:=by kernel_rfl
theorem ty102:tyF Tryz.prog 102=some (5,true,72,[.slice none 0 0,I64 (0),I64 (0),I64 (0),.slice none 0 0]):=by kernel_rfl
theorem fld102_0:fldF Tryz.prog 102 0=some 0:=by kernel_rfl
theorem fld102_1:fldF Tryz.prog 102 1=some 1:=by kernel_rfl
theorem fld102_2:fldF Tryz.prog 102 2=some 3:=by kernel_rfl
theorem pl102(w:World):(placesRun Tryz.prog 102).run Tryz.prog w = .ok #[(0,1),(1,2),(3,2)] w:=by kernel_rfl
theorem ty108:tyF Tryz.prog 108=some (7,true,56,[I64 (0),I64 (0),I64 (0),I64 (0),I64 (0),I64 (0),I64 (0)]):=by kernel_rfl
theorem fld108_0:fldF Tryz.prog 108 0=some 0:=by kernel_rfl
theorem fld108_1:fldF Tryz.prog 108 1=some 1:=by kernel_rfl
theorem fld108_2:fldF Tryz.prog 108 2=some 2:=by kernel_rfl
theorem fld108_3:fldF Tryz.prog 108 3=some 3:=by kernel_rfl
theorem fld108_4:fldF Tryz.prog 108 4=some 4:=by kernel_rfl
theorem fld108_5:fldF Tryz.prog 108 5=some 5:=by kernel_rfl
theorem fld108_6:fldF Tryz.prog 108 6=some 6:=by kernel_rfl
theorem pl108(w:World):(placesRun Tryz.prog 108).run Tryz.prog w = .ok #[(0,1),(1,1),(2,1),(3,1),(4,1),(5,1),(6,1)] w:=by kernel_rfl
theorem ty109:tyF Tryz.prog 109=some (1,false,24,[.slice none 0 0]):=by kernel_rfl
theorem ty111:tyF Tryz.prog 111=some (2,true,32,[I64 (0),.slice none 0 0]):=by kernel_rfl
theorem fld111_0:fldF Tryz.prog 111 0=some 0:=by kernel_rfl
theorem fld111_1:fldF Tryz.prog 111 1=some 1:=by kernel_rfl
theorem pl111(w:World):(placesRun Tryz.prog 111).run Tryz.prog w = .ok #[(0,1),(1,1)] w:=by kernel_rfl
theorem ty125:tyF Tryz.prog 125=some (2,true,32,[.slice none 0 0,I64 (0)]):=by kernel_rfl
theorem fld125_0:fldF Tryz.prog 125 0=some 0:=by kernel_rfl
theorem fld125_1:fldF Tryz.prog 125 1=some 1:=by kernel_rfl
theorem pl125(w:World):(placesRun Tryz.prog 125).run Tryz.prog w = .ok #[(0,1),(1,1)] w:=by kernel_rfl
end Go.Sl
namespace Go.Sl
open Go.Proofs
theorem ty135:tyF Tryz.prog 135=some (2,true,16,[I64 (0),I64 (0)]):=by kernel_rfl
theorem fld135_0:fldF Tryz.prog 135 0=some 0:=by kernel_rfl
theorem fld135_1:fldF Tryz.prog 135 1=some 1:=by kernel_rfl
theorem pl135(w:World):(placesRun Tryz.prog 135).run Tryz.prog w = .ok #[(0,1),(1,1)] w:=by kernel_rfl
theorem ty146:tyF Tryz.prog 146=some (6,true,48,[I64 (0),I64 (0),I64 (0),I64 (0),I64 (0),I64 (0)]):=by kernel_rfl
theorem fld146_0:fldF Tryz.prog 146 0=some 0:=by kernel_rfl
theorem fld146_1:fldF Tryz.prog 146 1=some 1:=by kernel_rfl
theorem fld146_2:fldF Tryz.prog 146 2=some 2:=by kernel_rfl
theorem fld146_3:fldF Tryz.prog 146 3=some 3:=by kernel_rfl
theorem fld146_4:fldF Tryz.prog 146 4=some 4:=by kernel_rfl
theorem fld146_5:fldF Tryz.prog 146 5=some 5:=by kernel_rfl
theorem pl146(w:World):(placesRun Tryz.prog 146).run Tryz.prog w = .ok #[(0,1),(1,1),(2,1),(3,1),(4,1),(5,1)] w:=by kernel_rfl
theorem ty153:tyF Tryz.prog 153=some (2,true,16,[I64 (0),.bool false]):=by kernel_rfl
theorem fld153_0:fldF Tryz.prog 153 0=some 0:=by kernel_rfl
theorem fld153_1:fldF Tryz.prog 153 1=some 1:=by kernel_rfl
theorem pl153(w:World):(placesRun Tryz.prog 153).run Tryz.prog w = .ok #[(0,1),(1,1)] w:=by kernel_rfl
theorem ty163:tyF Tryz.prog 163=some (5,true,56,[I64 (0),.slice none 0 0,I64 (0),I64 (0),I64 (0)]):=by kernel_rfl
theorem fld163_0:fldF Tryz.prog 163 0=some 0:=by kernel_rfl
theorem fld163_1:fldF Tryz.prog 163 1=some 1:=by kernel_rfl
theorem fld163_2:fldF Tryz.prog 163 2=some 2:=by kernel_rfl
theorem pl163(w:World):(placesRun Tryz.prog 163).run Tryz.prog w = .ok #[(0,1),(1,1),(2,3)] w:=by kernel_rfl
theorem ty175:tyF Tryz.prog 175=some (1,false,8,[.int .u64 (0)]):=by kernel_rfl
theorem ty177:tyF Tryz.prog 177=some (2,true,16,[.int .u64 (0),.int .u64 (0)]):=by kernel_rfl
theorem fld177_0:fldF Tryz.prog 177 0=some 0:=by kernel_rfl
theorem fld177_1:fldF Tryz.prog 177 1=some 1:=by kernel_rfl
theorem pl177(w:World):(placesRun Tryz.prog 177).run Tryz.prog w = .ok #[(0,1),(1,1)] w:=by kernel_rfl
theorem ty208:tyF Tryz.prog 208=some (2,true,32,[.int .u64 (0),.slice none 0 0]):=by kernel_rfl
theorem fld208_0:fldF Tryz.prog 208 0=some 0:=by kernel_rfl
theorem fld208_1:fldF Tryz.prog 208 1=some 1:=by kernel_rfl
theorem pl208(w:World):(placesRun Tryz.prog 208).run Tryz.prog w = .ok #[(0,1),(1,1)] w:=by kernel_rfl
theorem ty211:tyF Tryz.prog 211=some (6,true,112,[.slice none 0 0,.slice none 0 0,.slice none 0 0,.slice none 0 0,.int .u64 (0),.int .u64 (0)]):=by kernel_rfl
theorem fld211_0:fldF Tryz.prog 211 0=some 0:=by kernel_rfl
theorem fld211_1:fldF Tryz.prog 211 1=some 1:=by kernel_rfl
theorem fld211_2:fldF Tryz.prog 211 2=some 2:=by kernel_rfl
theorem fld211_3:fldF Tryz.prog 211 3=some 3:=by kernel_rfl
theorem fld211_4:fldF Tryz.prog 211 4=some 4:=by kernel_rfl
theorem fld211_5:fldF Tryz.prog 211 5=some 5:=by kernel_rfl
theorem pl211(w:World):(placesRun Tryz.prog 211).run Tryz.prog w = .ok #[(0,1),(1,1),(2,1),(3,1),(4,1),(5,1)] w:=by kernel_rfl
theorem ty220:tyF Tryz.prog 220=some (5,true,5,[.bool false,.bool false,.bool false,.bool false,.bool false]):=by kernel_rfl
theorem fld220_0:fldF Tryz.prog 220 0=some 0:=by kernel_rfl
theorem fld220_1:fldF Tryz.prog 220 1=some 1:=by kernel_rfl
theorem fld220_2:fldF Tryz.prog 220 2=some 2:=by kernel_rfl
theorem fld220_3:fldF Tryz.prog 220 3=some 3:=by kernel_rfl
theorem fld220_4:fldF Tryz.prog 220 4=some 4:=by kernel_rfl
theorem pl220(w:World):(placesRun Tryz.prog 220).run Tryz.prog w = .ok #[(0,1),(1,1),(2,1),(3,1),(4,1)] w:=by kernel_rfl
theorem ty228:tyF Tryz.prog 228=some (1,false,24,[.slice none 0 0]):=by kernel_rfl
theorem ty241:tyF Tryz.prog 241=some (3,true,56,[I64 (0),.slice none 0 0,.slice none 0 0]):=by kernel_rfl
theorem fld241_0:fldF Tryz.prog 241 0=some 0:=by kernel_rfl
theorem fld241_1:fldF Tryz.prog 241 1=some 2:=by kernel_rfl
theorem pl241(w:World):(placesRun Tryz.prog 241).run Tryz.prog w = .ok #[(0,2),(2,1)] w:=by kernel_rfl
end Go.Sl
namespace Go.Sl
open Go.Proofs
theorem ty301:tyF Tryz.prog 301=some (1,false,24,[.slice none 0 0]):=by kernel_rfl
theorem ty303:tyF Tryz.prog 303=some (4,true,48,[I64 (0),I64 (0),I64 (0),.slice none 0 0]):=by kernel_rfl
theorem fld303_0:fldF Tryz.prog 303 0=some 0:=by kernel_rfl
theorem fld303_1:fldF Tryz.prog 303 1=some 1:=by kernel_rfl
theorem fld303_2:fldF Tryz.prog 303 2=some 2:=by kernel_rfl
theorem fld303_3:fldF Tryz.prog 303 3=some 3:=by kernel_rfl
theorem pl303(w:World):(placesRun Tryz.prog 303).run Tryz.prog w = .ok #[(0,1),(1,1),(2,1),(3,1)] w:=by kernel_rfl
theorem ty305:tyF Tryz.prog 305=some (3,true,24,[I64 (0),I64 (0),I64 (0)]):=by kernel_rfl
theorem fld305_0:fldF Tryz.prog 305 0=some 0:=by kernel_rfl
theorem fld305_1:fldF Tryz.prog 305 1=some 1:=by kernel_rfl
theorem fld305_2:fldF Tryz.prog 305 2=some 2:=by kernel_rfl
theorem pl305(w:World):(placesRun Tryz.prog 305).run Tryz.prog w = .ok #[(0,1),(1,1),(2,1)] w:=by kernel_rfl
theorem ty312:tyF Tryz.prog 312=some (1,false,8,[.nilFunc]):=by kernel_rfl
theorem ty336:tyF Tryz.prog 336=some (4,true,32,[I64 (0),I64 (0),I64 (0),I64 (0)]):=by kernel_rfl
theorem fld336_0:fldF Tryz.prog 336 0=some 0:=by kernel_rfl
theorem fld336_1:fldF Tryz.prog 336 1=some 3:=by kernel_rfl
theorem pl336(w:World):(placesRun Tryz.prog 336).run Tryz.prog w = .ok #[(0,3),(3,1)] w:=by kernel_rfl
theorem ty337:tyF Tryz.prog 337=some (1,false,24,[.slice none 0 0]):=by kernel_rfl
theorem ty339:tyF Tryz.prog 339=some (5,true,104,[.slice none 0 0,.slice none 0 0,.slice none 0 0,.slice none 0 0,I64 (0)]):=by kernel_rfl
theorem fld339_0:fldF Tryz.prog 339 0=some 0:=by kernel_rfl
theorem fld339_1:fldF Tryz.prog 339 1=some 1:=by kernel_rfl
theorem fld339_2:fldF Tryz.prog 339 2=some 2:=by kernel_rfl
theorem fld339_3:fldF Tryz.prog 339 3=some 3:=by kernel_rfl
theorem fld339_4:fldF Tryz.prog 339 4=some 4:=by kernel_rfl
theorem pl339(w:World):(placesRun Tryz.prog 339).run Tryz.prog w = .ok #[(0,1),(1,1),(2,1),(3,1),(4,1)] w:=by kernel_rfl
theorem call16:callable Tryz.prog 16=true:=by kernel_rfl
theorem call18:callable Tryz.prog 18=true:=by kernel_rfl
theorem call19:callable Tryz.prog 19=true:=by kernel_rfl
theorem call20:callable Tryz.prog 20=true:=by kernel_rfl
theorem call21:callable Tryz.prog 21=true:=by kernel_rfl
theorem call28:callable Tryz.prog 28=true:=by kernel_rfl
theorem call30:callable Tryz.prog 30=true:=by kernel_rfl
theorem call41:callable Tryz.prog 41=true:=by kernel_rfl
theorem call42:callable Tryz.prog 42=true:=by kernel_rfl
theorem call44:callable Tryz.prog 44=true:=by kernel_rfl
theorem call47:callable Tryz.prog 47=true:=by kernel_rfl
theorem call49:callable Tryz.prog 49=true:=by kernel_rfl
theorem call56:callable Tryz.prog 56=true:=by kernel_rfl
theorem call61:callable Tryz.prog 61=true:=by kernel_rfl
theorem call64:callable Tryz.prog 64=true:=by kernel_rfl
theorem call72:callable Tryz.prog 72=true:=by kernel_rfl
theorem call73:callable Tryz.prog 73=true:=by kernel_rfl
theorem call74:callable Tryz.prog 74=true:=by kernel_rfl
theorem call75:callable Tryz.prog 75=true:=by kernel_rfl
theorem call76:callable Tryz.prog 76=true:=by kernel_rfl
theorem call77:callable Tryz.prog 77=true:=by kernel_rfl
theorem call78:callable Tryz.prog 78=true:=by kernel_rfl
theorem call79:callable Tryz.prog 79=true:=by kernel_rfl
theorem call82:callable Tryz.prog 82=true:=by kernel_rfl
theorem call83:callable Tryz.prog 83=true:=by kernel_rfl
theorem call84:callable Tryz.prog 84=true:=by kernel_rfl
theorem call88:callable Tryz.prog 88=true:=by kernel_rfl
theorem call89:callable Tryz.prog 89=true:=by kernel_rfl
theorem call91:callable Tryz.prog 91=true:=by kernel_rfl
theorem call97:callable Tryz.prog 97=true:=by kernel_rfl
theorem call98:callable Tryz.prog 98=true:=by kernel_rfl
theorem call100:callable Tryz.prog 100=true:=by kernel_rfl
theorem call101:callable Tryz.prog 101=true:=by kernel_rfl
theorem call105:callable Tryz.prog 105=true:=by kernel_rfl
theorem call106:callable Tryz.prog 106=true:=by kernel_rfl
theorem call115:callable Tryz.prog 115=true:=by kernel_rfl
end Go.Sl
namespace Go.Sl
open Go.Proofs
theorem call119:callable Tryz.prog 119=true:=by kernel_rfl
theorem call123:callable Tryz.prog 123=true:=by kernel_rfl
theorem call124:callable Tryz.prog 124=true:=by kernel_rfl
theorem call128:callable Tryz.prog 128=true:=by kernel_rfl
theorem call134:callable Tryz.prog 134=true:=by kernel_rfl
theorem call135:callable Tryz.prog 135=true:=by kernel_rfl
theorem call136:callable Tryz.prog 136=true:=by kernel_rfl
theorem call137:callable Tryz.prog 137=true:=by kernel_rfl
theorem call138:callable Tryz.prog 138=true:=by kernel_rfl
theorem call139:callable Tryz.prog 139=true:=by kernel_rfl
theorem call140:callable Tryz.prog 140=true:=by kernel_rfl
theorem call141:callable Tryz.prog 141=true:=by kernel_rfl
theorem call142:callable Tryz.prog 142=true:=by kernel_rfl
theorem call147:callable Tryz.prog 147=true:=by kernel_rfl
theorem call153:callable Tryz.prog 153=true:=by kernel_rfl
theorem call154:callable Tryz.prog 154=true:=by kernel_rfl
theorem call157:callable Tryz.prog 157=true:=by kernel_rfl
theorem call158:callable Tryz.prog 158=true:=by kernel_rfl
theorem call159:callable Tryz.prog 159=true:=by kernel_rfl
theorem call165:callable Tryz.prog 165=true:=by kernel_rfl
theorem call166:callable Tryz.prog 166=true:=by kernel_rfl
theorem call167:callable Tryz.prog 167=true:=by kernel_rfl
theorem call168:callable Tryz.prog 168=true:=by kernel_rfl
theorem call169:callable Tryz.prog 169=true:=by kernel_rfl
theorem call170:callable Tryz.prog 170=true:=by kernel_rfl
theorem call171:callable Tryz.prog 171=true:=by kernel_rfl
theorem call172:callable Tryz.prog 172=true:=by kernel_rfl
theorem call173:callable Tryz.prog 173=true:=by kernel_rfl
theorem call176:callable Tryz.prog 176=true:=by kernel_rfl
theorem call177:callable Tryz.prog 177=true:=by kernel_rfl
theorem call180:callable Tryz.prog 180=true:=by kernel_rfl
theorem call184:callable Tryz.prog 184=true:=by kernel_rfl
theorem call186:callable Tryz.prog 186=true:=by kernel_rfl
theorem call187:callable Tryz.prog 187=true:=by kernel_rfl
theorem call188:callable Tryz.prog 188=true:=by kernel_rfl
theorem call189:callable Tryz.prog 189=true:=by kernel_rfl
theorem call190:callable Tryz.prog 190=true:=by kernel_rfl
theorem call191:callable Tryz.prog 191=true:=by kernel_rfl
theorem call199:callable Tryz.prog 199=true:=by kernel_rfl
theorem call200:callable Tryz.prog 200=true:=by kernel_rfl
theorem call203:callable Tryz.prog 203=true:=by kernel_rfl
theorem call204:callable Tryz.prog 204=true:=by kernel_rfl
theorem call207:callable Tryz.prog 207=true:=by kernel_rfl
theorem call208:callable Tryz.prog 208=true:=by kernel_rfl
theorem call209:callable Tryz.prog 209=true:=by kernel_rfl
theorem call210:callable Tryz.prog 210=true:=by kernel_rfl
theorem call211:callable Tryz.prog 211=true:=by kernel_rfl
theorem call212:callable Tryz.prog 212=true:=by kernel_rfl
theorem call213:callable Tryz.prog 213=true:=by kernel_rfl
theorem call214:callable Tryz.prog 214=true:=by kernel_rfl
theorem call215:callable Tryz.prog 215=true:=by kernel_rfl
theorem call216:callable Tryz.prog 216=true:=by kernel_rfl
theorem call219:callable Tryz.prog 219=true:=by kernel_rfl
theorem call220:callable Tryz.prog 220=true:=by kernel_rfl
theorem call221:callable Tryz.prog 221=true:=by kernel_rfl
theorem call224:callable Tryz.prog 224=true:=by kernel_rfl
theorem call225:callable Tryz.prog 225=true:=by kernel_rfl
theorem call228:callable Tryz.prog 228=true:=by kernel_rfl
theorem call229:callable Tryz.prog 229=true:=by kernel_rfl
theorem call230:callable Tryz.prog 230=true:=by kernel_rfl
theorem call231:callable Tryz.prog 231=true:=by kernel_rfl
theorem call232:callable Tryz.prog 232=true:=by kernel_rfl
theorem call233:callable Tryz.prog 233=true:=by kernel_rfl
theorem call234:callable Tryz.prog 234=true:=by kernel_rfl
theorem call237:callable Tryz.prog 237=true:=by kernel_rfl
theorem call242:callable Tryz.prog 242=true:=by kernel_rfl
theorem call243:callable Tryz.prog 243=true:=by kernel_rfl
theorem call244:callable Tryz.prog 244=true:=by kernel_rfl
theorem call247:callable Tryz.prog 247=true:=by kernel_rfl
theorem call248:callable Tryz.prog 248=true:=by kernel_rfl
theorem call249:callable Tryz.prog 249=true:=by kernel_rfl
theorem call250:callable Tryz.prog 250=true:=by kernel_rfl
theorem call251:callable Tryz.prog 251=true:=by kernel_rfl
theorem call252:callable Tryz.prog 252=true:=by kernel_rfl
theorem call253:callable Tryz.prog 253=true:=by kernel_rfl
theorem call254:callable Tryz.prog 254=true:=by kernel_rfl
theorem call255:callable Tryz.prog 255=true:=by kernel_rfl
theorem call256:callable Tryz.prog 256=true:=by kernel_rfl
theorem call257:callable Tryz.prog 257=true:=by kernel_rfl
theorem call258:callable Tryz.prog 258=true:=by kernel_rfl
theorem call259:callable Tryz.prog 259=true:=by kernel_rfl
theorem call271:callable Tryz.prog 271=true:=by kernel_rfl
theorem call272:callable Tryz.prog 272=true:=by kernel_rfl
theorem call275:callable Tryz.prog 275=true:=by kernel_rfl
theorem call277:callable Tryz.prog 277=true:=by kernel_rfl
theorem call278:callable Tryz.prog 278=true:=by kernel_rfl
theorem call279:callable Tryz.prog 279=true:=by kernel_rfl
theorem call280:callable Tryz.prog 280=true:=by kernel_rfl
theorem call281:callable Tryz.prog 281=true:=by kernel_rfl
theorem call282:callable Tryz.prog 282=true:=by kernel_rfl
theorem call283:callable Tryz.prog 283=true:=by kernel_rfl
theorem call286:callable Tryz.prog 286=true:=by kernel_rfl
theorem call287:callable Tryz.prog 287=true:=by kernel_rfl
theorem call288:callable Tryz.prog 288=true:=by kernel_rfl
theorem call289:callable Tryz.prog 289=true:=by kernel_rfl
theorem call290:callable Tryz.prog 290=true:=by kernel_rfl
theorem call291:callable Tryz.prog 291=true:=by kernel_rfl
theorem call292:callable Tryz.prog 292=true:=by kernel_rfl
theorem call293:callable Tryz.prog 293=true:=by kernel_rfl
theorem call294:callable Tryz.prog 294=true:=by kernel_rfl
theorem call295:callable Tryz.prog 295=true:=by kernel_rfl
theorem call296:callable Tryz.prog 296=true:=by kernel_rfl
theorem call297:callable Tryz.prog 297=true:=by kernel_rfl
theorem call298:callable Tryz.prog 298=true:=by kernel_rfl
theorem call299:callable Tryz.prog 299=true:=by kernel_rfl
theorem call300:callable Tryz.prog 300=true:=by kernel_rfl
theorem call301:callable Tryz.prog 301=true:=by kernel_rfl
theorem call302:callable Tryz.prog 302=true:=by kernel_rfl
theorem call303:callable Tryz.prog 303=true:=by kernel_rfl
theorem call309:callable Tryz.prog 309=true:=by kernel_rfl
theorem call315:callable Tryz.prog 315=true:=by kernel_rfl
theorem call317:callable Tryz.prog 317=true:=by kernel_rfl
theorem call318:callable Tryz.prog 318=true:=by kernel_rfl
theorem call321:callable Tryz.prog 321=true:=by kernel_rfl
theorem call323:callable Tryz.prog 323=true:=by kernel_rfl
theorem call335:callable Tryz.prog 335=true:=by kernel_rfl
theorem call336:callable Tryz.prog 336=true:=by kernel_rfl
theorem call341:callable Tryz.prog 341=true:=by kernel_rfl
theorem call342:callable Tryz.prog 342=true:=by kernel_rfl
theorem mixed:Tryz.prog.follows .mixedOrders=true:=by kernel_rfl
end Go.Sl

namespace Go.Sl
end Go.Sl
namespace Go.Sl
end Go.Sl
namespace Go.Sl
def cmpI(a b:Int):Int:=if a<b then -1 else if b<a then 1 else 0
def orL:List Int→Int
 |[]=>0
 |x::xs=>if x≠0 then x else orL xs
theorem orL_stop{xs:List Int}{k:Nat}(hk:k<xs.length)(h:at_ xs (k:Int)≠0):orL (xs.drop k)=at_ xs (k:Int):=by
 rw [drop_at xs k hk];simp only [orL];rw [if_pos h]
theorem orL_step{xs:List Int}{k:Nat}(hk:k<xs.length)(h:at_ xs (k:Int)=0):orL (xs.drop k)=orL (xs.drop (k+1)):=by
 rw [drop_at xs k hk];simp only [orL];rw [if_neg (by simp [h])]
theorem orL_end{xs:List Int}{k:Nat}(hk:xs.length≤k):orL (xs.drop k)=0:=by rw [List.drop_eq_nil_of_le hk];rfl
theorem orL_cmp(a b:Pt):orL [cmpI a.u b.u,cmpI a.v b.v]=Pt.cmp a b:=by
 simp only [orL,cmpI,Pt.cmp]
 split<;>(try split at *)<;>(try split at *)<;>(try split at *)<;>(try split at *)<;>(try split at *)<;>omega
end Go.Sl
namespace Go.Sl
open Go.Proofs
set_option maxRecDepth 4000
variable {κ:Ctx}{I:List Item}
abbrev deck(b:Nat)(lv:Value)(i:Int):Item:=blk b [lv,I64 i] 125
theorem Mod_ok{n k:Int}(h1:1≤k)(h2:k≤1000000000000) :
    CallS Tryz.prog κ 76 [I64 (n),I64 (k)] I (fun r J=>∃x:Int,r=I64 x∧(0≤x∧x<k)∧I=J):=by
 have q1:=Int.tmod_lt_of_pos n (b:=k) om
 have q2:=Int.lt_tmod_of_pos n (b:=k) om
 refine Ce2 Tryz.func76 rfl rfl ?_
 refine Ah (Ga rfl (Af (Ah (Gm rfl (Gm rfl (Gr (Runs.rem rfl rfl om) (Gm rfl (Gr (Rad rfl rfl) (Gm rfl (Gr (Runs.rem rfl rfl om) (Ga rfl (Af (A2 ?_)))))))))))))
 have t1:=Int.tmod_nonneg k (a:=Int.tmod n k+k) om
 have t2:=Int.tmod_lt_of_pos (Int.tmod n k+k) (b:=k) om
 exact A7 rfl rfl (_) A4 ⟨_,rfl,⟨t1,t2⟩,rfl⟩
theorem Next_base{b:Nat}{lv:Value}{ls:List Int}{i:Int}(hl:Sl κ (deck b lv i::I) lv ls)(h0:0≤i){n:Int}(hn:n≤1000000000000) :
    CallS Tryz.prog κ 19 [.pointer (some ⟨b,0,none⟩),I64 (n)] (blk b [lv,I64 (i)] 125::I) (fun r J=>∃y:Int×Int,(r=I64 y.1∧(0≤y.1∧(1≤n→y.1<n)∧(n<1→y.1=0))∧0≤y.2)∧J=[]++deck b lv y.2::I):=by
 refine B4 hl.le fun hmax=>?_
 refine Ce2 Tryz.func19 rfl rfl ?_
 refine Ah (Ga rfl (Af (Ao (Ao (Bo mixed (Bu (blk b [lv,I64 (i)] 125::I) 14 (Dr 0 rfl (Ad rfl) (Dr 1 rfl (Bc rfl rfl) (Dr 2 rfl (Ad rfl) (D1 (d:=8) rfl (fun g8=>?_) (fun g8=>?_)))))))))))
 ·exact Dpo 3 rfl (Dpo 4 rfl (Dpo 5 rfl (Dpo 6 rfl (Dpo 7 rfl (Dpo 8 rfl (Dpo 9 rfl (Dpo 10 rfl (Dpo 11 rfl (Dpo 12 rfl (Dr 13 rfl (Ap rfl rfl) (Dz (Ai (As (S3 19 0 1 rfl rfl rfl) (Cl rfl (Ah (Ga rfl (Af (A2 (Al (A7 rfl rfl (_) A4 ⟨(0,i),⟨rfl,⟨Int.le_refl _,by intro _;show (0:Int)<n;omega,fun _=>rfl⟩,h0⟩,rfl⟩))))))))))))))))))))
 ·refine Dro 3 rfl (Ad rfl) (Dro 4 rfl (Bk rfl) (Dro 5 rfl (Aa fld125_1 rfl) (Dro 6 rfl (Au ty3) ?_)))
  refine Dro 7 rfl (Ad rfl) (Dro 8 rfl (Bk rfl) (Dro 9 rfl (Aa fld125_0 rfl) (Dro 10 rfl (Au ty22) ?_)))
  refine Dro 11 rfl (Bz (α:=Int) (xs:=ls) Ab rfl (Bf hl)) (Dro 12 rfl (Cg rfl rfl) (Dr 13 rfl (Av rfl rfl) (Dz (Ai (As (S3 19 0 1 rfl rfl rfl) (A9 rfl (fun c19=>?_) (fun c19=>?_)))))))
  ·exact Ah (Ga rfl (Af (A2 (Al (A7 rfl rfl (_) A4 ⟨(0,i),⟨rfl,⟨Int.le_refl _,by intro _;show (0:Int)<n;omega,fun _=>rfl⟩,h0⟩,rfl⟩)))))
  ·refine A0 (Ai (Ao (Bo mixed (Bu (blk b [lv,I64 (i)] 125::I) 11 (Dr 0 rfl (Ad rfl) (Dr 1 rfl (Bk rfl) (Dr 2 rfl (Aa fld125_0 rfl) (Dr 3 rfl (Au ty22) ?_))))))))
   refine Dr 4 rfl (Ad rfl) (Dr 5 rfl (Bk rfl) (Dr 6 rfl (Aa fld125_1 rfl) (Dr 7 rfl (Au ty3) ?_)))
   refine Dr 8 rfl (A8 (α:=Int) (xs:=ls) Ab ty3 rfl rfl (Bf hl) om om) (Dr 9 rfl (B2 (xs:=ls) ty3 rfl (Bf hl) om om) (Dr 10 rfl (Bd rfl) (Dz (Ai (As (S3 5 0 1 rfl rfl rfl) (Ah (Gm rfl (Gr (Bk rfl) (Gf fld125_1 rfl (Gl ty3 ?_))))))))))
   refine Gr (Rad rfl rfl) (Gr (Bk rfl) (Gf fld125_1 rfl (Ge0 (Ek ty3) ?_)))
   refine Af (Ah (Gm rfl (Gm rfl (G.e (Am call76 rfl rfl (Mod_ok om om)) ?_))))
   rintro _ _ ⟨_,_,⟨x1,rfl,hx1,rfl⟩,rfl,rfl⟩
   exact Ga rfl (Af (As (S1 4 rfl) (A2 (A7 rfl rfl (_) A4 ⟨(x1,i+1),⟨rfl,⟨by omega,by omega,by omega⟩,by show 0≤i+1;omega⟩,rfl⟩))))
theorem Next_ok{F:Item→List Item}{b:Nat}{lv:Value}{ls:List Int}{i:Int}(hat:AtF I (deck b lv i) F)(hl:Sl κ I lv ls)(h0:0≤i){n:Int}(hn:n≤1000000000000) :
  CallS Tryz.prog κ 19 [.pointer (some ⟨b,0,none⟩),I64 n] I fun r J=>∃x i',r=I64 x∧(0≤x∧(1≤n→x<n)∧(n<1→x=0))∧0≤i'∧J=F (deck b lv i'):=
 (Dy (Z:=fun _=>[]) (X:=fun y:Int×Int=>deck b lv y.2) hat fun _ hJ _=>Next_base (hl.fit hJ) h0 hn).mono fun _ _ ⟨y,⟨h1,h2,h3⟩,h4⟩=>⟨y.1,y.2,h1,h2,h3,h4⟩
theorem New_ok{a:Option Addr}{n c:Nat} :
    CallS Tryz.prog κ 18 [.slice a n c] I (fun r J=>∃b,r = .pointer (some ⟨b,0,none⟩)∧J=deck b (.slice a n c) 0::I):=by
 refine Ce1 Tryz.func18 rfl rfl ?_
 exact Ah (Ga rfl (Af (Ah (Gm rfl (Gr (Be (cells:=[_,_]) ty125 Tryz.underlying125 pl125 rfl rfl) (Ge1 (Bb (cs:=[_,_]) rfl rfl rfl) fun b1=>Ga rfl (Af (A2 (A7 rfl rfl (_) A4 ⟨b1,rfl,rfl⟩)))))))))
theorem RHas_ok{v:Value}{xs:List Int}(hl:Sl κ I v xs)(x:Int) :
    CallS Tryz.prog κ 72 [v,I64 (x)] I (fun r J=>r = .bool (decide (x∈xs))∧I=J):=by
 refine B4 hl.le fun hmax=>?_
 refine Ce2 Tryz.func72 rfl rfl ?_
 refine Ah (Ga rfl (Af (Ao (Ah (Gm rfl (Gr (Bz (α:=Int) (xs:=xs) Ab rfl (Bf hl)) (Gm rfl (Af (Ax (Bx (σ:=Nat) (fun s=>([(1,I64 (x)),(7,v),(8,I64 (((xs.length:Nat):Int))),(9,I64 (((s:Nat):Int)))]:Env)) (fun s=>I) (fun s=>(s≤xs.length)∧(∀j,j<s→at_ xs (j:Int)≠x)) (fun s=>xs.length - s) (0) (show ((0:Nat)≤xs.length)∧(∀j,j<(0:Nat)→at_ xs (j:Int)≠x) from ⟨om,all_zero⟩) (Ac rfl (Ac rfl (Ac rfl (Ac Cb Bq)))) (show Fit κ _ (I) from Ay) ?_))))))))))
 rintro k hp
 obtain ⟨hk,hn⟩:=hp
 refine Ah (Gr (Bc rfl rfl) (Af (Ao (A9 rfl (fun c10=>?_) (fun c10=>?_)))))
 ·refine A0 (Ai (Ao (Ax (Ah (Gr (A8 (α:=Int) (xs:=xs) Ab ty3 rfl rfl (Bf hl) om om) (Gr (B2 (xs:=xs) ty3 rfl (Bf hl) om om) (Ga rfl (Af (Ah (Gm rfl (Gm rfl (Gr (Bs rfl rfl) (Af (A9 rfl (fun c15=>?_) (fun c15=>?_)))))))))))))))
  ·refine Ah (Ga rfl (Af (A2 (Ar (Al (Al (Ar (Al ?_))))))))
   have hm:x∈xs:=by subst c15;exact Ck om om
   exact A7 rfl rfl (_) A4 ⟨by rw [decide_eq_true hm],rfl⟩
  ·exact A0 (Aj (Ai (Aw (Gr (Rad rfl rfl) (Gm rfl (Bj (B6 ((k+1)) ⟨om,(Ei hn c15)⟩)))))))
 ·refine Bt (Ak (Ak (A6 (Ai (Ah (Ga rfl (Af (A2 ?_))))))))
  have hm:x∉xs:=not_mem_at hn om
  exact A7 rfl rfl (_) A4 ⟨by rw [decide_eq_false hm],rfl⟩
def ValidP(xs:List Int)(nodes:Int):Prop:=∀j,j<xs.length→(0≤at_ xs (j:Int)∧at_ xs (j:Int)<nodes)∧(0<j→at_ xs ((j:Int) - 1)<at_ xs (j:Int))
instance (xs:List Int) (nodes:Int):Decidable (ValidP xs nodes):=by unfold ValidP;infer_instance
theorem NValid_ok{v:Value}{xs:List Int}(hl:Sl κ I v xs)(nodes:Int) :
    CallS Tryz.prog κ 88 [v,I64 (nodes)] I (fun r J=>r = .bool (decide (ValidP xs nodes))∧I=J):=by
 refine B4 hl.le fun hmax=>?_
 refine Ce2 Tryz.func88 rfl rfl ?_
 refine Ah (Ga rfl (Af (Ao (Ah (Gm rfl (Gr (Bz (α:=Int) (xs:=xs) Ab rfl (Bf hl)) (Gm rfl (Af (Ax (Bx (σ:=Nat) (fun s=>([(0,v),(1,I64 (nodes)),(7,v),(8,I64 (((xs.length:Nat):Int))),(9,I64 (((s:Nat):Int)))]:Env)) (fun s=>I) (fun s=>(s≤xs.length)∧(∀j,j<s→(0≤at_ xs (j:Int)∧at_ xs (j:Int)<nodes)∧(0<j→at_ xs ((j:Int) - 1)<at_ xs (j:Int)))) (fun s=>xs.length - s) (0) (show ((0:Nat)≤xs.length)∧(∀j,j<(0:Nat)→(0≤at_ xs (j:Int)∧at_ xs (j:Int)<nodes)∧(0<j→at_ xs ((j:Int) - 1)<at_ xs (j:Int))) from ⟨om,all_zero⟩) (Ac rfl (Ac rfl (Ac rfl (Ac rfl (Ac Cb Bq))))) (show Fit κ _ (I) from Ay) ?_))))))))))
 rintro k hp
 obtain ⟨hk,hn⟩:=hp
 refine Ah (Gr (Bc rfl rfl) (Af (Ao (A9 rfl (fun c10=>?_) (fun c10=>?_)))))
 ·refine A0 (Ai (Ao (Ax (Ah (Gm rfl (Gr (A8 (α:=Int) (xs:=xs) Ab ty3 rfl rfl (Bf hl) om om) (Gr (B2 (xs:=xs) ty3 rfl (Bf hl) om om) (Ga rfl (Ga rfl (Af (Ah (Gm rfl (Gr (Bc rfl rfl) (Gm rfl (Bi (d:=16) rfl (fun g16=>?_) (fun g16=>?_))))))))))))))))
  ·refine Gpo (Gpo (Gpo (Gr (Ap rfl rfl) (Gm rfl (Gpo (Gpo (Gpo (Gpu (Gpu (Gpu (Gpu (Gpu (Gpu (Gpu (Gpo (Gr (Ap rfl rfl) (Af (As (S6 33 0 1 7 8 9 rfl rfl rfl rfl rfl rfl) (Cl rfl (Ah (Ga rfl (Af (A2 (Ar (Al (Al (Ar (Al ?_))))))))))))))))))))))))))))
   have hm:¬ValidP xs nodes:=fun hv=>by have:=hv k om;omega
   exact A7 rfl rfl (_) A4 ⟨by rw [decide_eq_false hm],rfl⟩
  ·refine Gro (Ad rfl) (Gro (Ad rfl) (Gro (Cg rfl rfl) (Gr (Av rfl rfl) (Gm rfl (Bi (d:=21) rfl (fun g21=>?_) (fun g21=>?_))))))
   ·refine Gpo (Gpo (Gpo (Gpu (Gpu (Gpu (Gpu (Gpu (Gpu (Gpu (Gpo (Gr (Ap rfl rfl) (Af (As (S6 33 0 1 7 8 9 rfl rfl rfl rfl rfl rfl) (Cl rfl (Ah (Ga rfl (Af (A2 (Ar (Al (Al (Ar (Al ?_)))))))))))))))))))))))
    have hm:¬ValidP xs nodes:=fun hv=>by have:=hv k om;omega
    exact A7 rfl rfl (_) A4 ⟨by rw [decide_eq_false hm],rfl⟩
   ·refine Gro (Ad rfl) (Gro (B5 rfl rfl) (Gro (Ad rfl) (Bi (d:=24) rfl (fun g24=>?_) (fun g24=>?_))))
    ·refine Gro (Ad rfl) (Gro (Ad rfl) (Gro (Rsu rfl rfl) (Gro (A8 (α:=Int) (xs:=xs) Ab ty3 rfl rfl (Bf hl) om om) (Gro (B2 (xs:=xs) ty3 rfl (Bf hl) om om) (Gro (Ad rfl) (Gro (Cg rfl rfl) (Gro (Ap rfl rfl) (Gr (Av rfl rfl) (Af (As (S6 33 0 1 7 8 9 rfl rfl rfl rfl rfl rfl) (A9 rfl (fun c33=>?_) (fun c33=>?_))))))))))))
     ·refine Ah (Ga rfl (Af (A2 (Ar (Al (Al (Ar (Al ?_))))))))
      have hm:¬ValidP xs nodes:=fun hv=>by have:=hv k om;have:=this.2 om;omega
      exact A7 rfl rfl (_) A4 ⟨by rw [decide_eq_false hm],rfl⟩
     ·exact A0 (Aj (Ai (Aw (Gr (Rad rfl rfl) (Gm rfl (Bj (B6 ((k+1)) ⟨om,(Ei hn ⟨by omega,fun _=>by omega⟩)⟩)))))))
    ·exact Gpo (Gpo (Gpo (Gpo (Gpo (Gpo (Gpo (Gro (Av rfl rfl) (Gr (Av rfl rfl) (Af (As (S6 33 0 1 7 8 9 rfl rfl rfl rfl rfl rfl) (Cx rfl (A0 (Aj (Ai (Aw (Gr (Rad rfl rfl) (Gm rfl (Bj (B6 ((k+1)) ⟨om,(Ei hn ⟨by omega,fun _=>by omega⟩)⟩)))))))))))))))))))
 ·refine Bt (Ak (Ak (A6 (Ai (Ah (Ga rfl (Af (A2 ?_))))))))
  have hm:ValidP xs nodes:=fun j hj=>hn j om
  exact A7 rfl rfl (_) A4 ⟨by rw [decide_eq_true hm],rfl⟩
theorem RValid_ok{v:Value}{xs:List Int}(hl:Sl κ I v xs)(nodes:Int) :
    CallS Tryz.prog κ 91 [v,I64 (nodes)] I (fun r J=>r = .bool (decide (ValidP xs nodes))∧I=J):=by
 refine B4 hl.le fun hmax=>?_
 refine Ce2 Tryz.func91 rfl rfl ?_
 refine Ah (Ga rfl (Af (Ao (Ah (Gm rfl (Gr (Bz (α:=Int) (xs:=xs) Ab rfl (Bf hl)) (Gm rfl (Af (Ax (Bx (σ:=Nat) (fun s=>([(0,v),(1,I64 (nodes)),(7,v),(8,I64 (((xs.length:Nat):Int))),(9,I64 (((s:Nat):Int)))]:Env)) (fun s=>I) (fun s=>(s≤xs.length)∧(∀j,j<s→(0≤at_ xs (j:Int)∧at_ xs (j:Int)<nodes)∧(0<j→at_ xs ((j:Int) - 1)<at_ xs (j:Int)))) (fun s=>xs.length - s) (0) (show ((0:Nat)≤xs.length)∧(∀j,j<(0:Nat)→(0≤at_ xs (j:Int)∧at_ xs (j:Int)<nodes)∧(0<j→at_ xs ((j:Int) - 1)<at_ xs (j:Int))) from ⟨om,all_zero⟩) (Ac rfl (Ac rfl (Ac rfl (Ac rfl (Ac Cb Bq))))) (show Fit κ _ (I) from Ay) ?_))))))))))
 rintro k hp
 obtain ⟨hk,hn⟩:=hp
 refine Ah (Gr (Bc rfl rfl) (Af (Ao (A9 rfl (fun c10=>?_) (fun c10=>?_)))))
 ·refine A0 (Ai (Ao (Ax (Ah (Gm rfl (Gr (A8 (α:=Int) (xs:=xs) Ab ty3 rfl rfl (Bf hl) om om) (Gr (B2 (xs:=xs) ty3 rfl (Bf hl) om om) (Ga rfl (Ga rfl (Af (Ah (Gm rfl (Gr (Bc rfl rfl) (Gm rfl (Bi (d:=16) rfl (fun g16=>?_) (fun g16=>?_))))))))))))))))
  ·refine Gpo (Gpo (Gpo (Gr (Ap rfl rfl) (Gm rfl (Gpo (Gpo (Gpo (Gpu (Gpu (Gpu (Gpu (Gpu (Gpu (Gpu (Gpo (Gr (Ap rfl rfl) (Af (As (S6 33 0 1 7 8 9 rfl rfl rfl rfl rfl rfl) (Cl rfl (Ah (Ga rfl (Af (A2 (Ar (Al (Al (Ar (Al ?_))))))))))))))))))))))))))))
   have hm:¬ValidP xs nodes:=fun hv=>by have:=hv k om;omega
   exact A7 rfl rfl (_) A4 ⟨by rw [decide_eq_false hm],rfl⟩
  ·refine Gro (Ad rfl) (Gro (Ad rfl) (Gro (Cg rfl rfl) (Gr (Av rfl rfl) (Gm rfl (Bi (d:=21) rfl (fun g21=>?_) (fun g21=>?_))))))
   ·refine Gpo (Gpo (Gpo (Gpu (Gpu (Gpu (Gpu (Gpu (Gpu (Gpu (Gpo (Gr (Ap rfl rfl) (Af (As (S6 33 0 1 7 8 9 rfl rfl rfl rfl rfl rfl) (Cl rfl (Ah (Ga rfl (Af (A2 (Ar (Al (Al (Ar (Al ?_)))))))))))))))))))))))
    have hm:¬ValidP xs nodes:=fun hv=>by have:=hv k om;omega
    exact A7 rfl rfl (_) A4 ⟨by rw [decide_eq_false hm],rfl⟩
   ·refine Gro (Ad rfl) (Gro (B5 rfl rfl) (Gro (Ad rfl) (Bi (d:=24) rfl (fun g24=>?_) (fun g24=>?_))))
    ·refine Gro (Ad rfl) (Gro (Ad rfl) (Gro (Rsu rfl rfl) (Gro (A8 (α:=Int) (xs:=xs) Ab ty3 rfl rfl (Bf hl) om om) (Gro (B2 (xs:=xs) ty3 rfl (Bf hl) om om) (Gro (Ad rfl) (Gro (Cg rfl rfl) (Gro (Ap rfl rfl) (Gr (Av rfl rfl) (Af (As (S6 33 0 1 7 8 9 rfl rfl rfl rfl rfl rfl) (A9 rfl (fun c33=>?_) (fun c33=>?_))))))))))))
     ·refine Ah (Ga rfl (Af (A2 (Ar (Al (Al (Ar (Al ?_))))))))
      have hm:¬ValidP xs nodes:=fun hv=>by have:=hv k om;have:=this.2 om;omega
      exact A7 rfl rfl (_) A4 ⟨by rw [decide_eq_false hm],rfl⟩
     ·exact A0 (Aj (Ai (Aw (Gr (Rad rfl rfl) (Gm rfl (Bj (B6 ((k+1)) ⟨om,(Ei hn ⟨by omega,fun _=>by omega⟩)⟩)))))))
    ·exact Gpo (Gpo (Gpo (Gpo (Gpo (Gpo (Gpo (Gro (Av rfl rfl) (Gr (Av rfl rfl) (Af (As (S6 33 0 1 7 8 9 rfl rfl rfl rfl rfl rfl) (Cx rfl (A0 (Aj (Ai (Aw (Gr (Rad rfl rfl) (Gm rfl (Bj (B6 ((k+1)) ⟨om,(Ei hn ⟨by omega,fun _=>by omega⟩)⟩)))))))))))))))))))
 ·refine Bt (Ak (Ak (A6 (Ai (Ah (Ga rfl (Af (A2 ?_))))))))
  have hm:ValidP xs nodes:=fun j hj=>hn j om
  exact A7 rfl rfl (_) A4 ⟨by rw [decide_eq_true hm],rfl⟩
variable {κ:Ctx}{I:List Item}
theorem IsNaN_ok(n:Int) :
    CallS Tryz.prog κ 277 [I64 (n)] I (fun r J=>r = .bool false∧I=J):=by
 refine Ce1 Tryz.func277 rfl rfl ?_
 exact Ah (Ga rfl (Af (Ah (Gm rfl (Gm rfl (Gr (Bv rfl rfl) (Ga rfl (Af (A2 (A7 rfl rfl (I) A4 ⟨by simp,rfl⟩))))))))))
theorem Compare_ok(m n:Int) :
    CallS Tryz.prog κ 225 [I64 (m),I64 (n)] I (fun r J=>r=I64 (cmpI m n)∧I=J):=by
 refine Ce2 Tryz.func225 rfl rfl ?_
 refine Ah (Ga rfl (Af (Ah (Gm rfl (Gc0 (Am call277 rfl rfl (IsNaN_ok m)) ?_)))))
 refine Ga rfl (Af (Ah (Gm rfl (Gc0 (Am call277 rfl rfl (IsNaN_ok n)) ?_))))
 refine Ga rfl (Af (Ao (Ah (Gm rfl (Af (Cx rfl (A0 (Ai (Ao (Ah (Gm rfl (Af (Cx rfl (A0 (Ai (Ao (Ah (Gm rfl (Gm rfl (Gr (Bc rfl rfl) (Af (As (S3 16 0 1 rfl rfl rfl) (A9 rfl (fun c16=>?_) (fun c16=>?_))))))))))))))))))))))))
 ·exact Ah (Ga rfl (Af (A2 (Al (A7 rfl rfl (I) A4 ⟨by unfold cmpI;rw [if_pos c16],rfl⟩)))))
 ·refine A0 (Ai (Ao (Ah (Gm rfl (Gm rfl (Gr (B5 rfl rfl) (Af (A9 rfl (fun c19=>?_) (fun c19=>?_)))))))))
  ·exact Ah (Ga rfl (Af (A2 (Al (A7 rfl rfl (I) A4 ⟨by unfold cmpI;rw [if_neg c16,if_pos c19],rfl⟩)))))
  ·exact A0 (Ai (Ah (Ga rfl (Af (A2 (A7 rfl rfl (I) A4 ⟨by unfold cmpI;rw [if_neg c16,if_neg c19],rfl⟩))))))
theorem Or_ok{v:Value}{xs:List Int}(hl:Sl κ I v xs) :
    CallS Tryz.prog κ 224 [v] I (fun r J=>r=I64 (orL xs)∧I=J):=by
 refine B4 hl.le fun hmax=>?_
 refine Ce1 Tryz.func224 rfl rfl ?_
 refine Ah (Ga rfl (Af (Ah (Ga rfl (Af (Ao (Ah (Gm rfl (Gr (Bz (α:=Int) (xs:=xs) Ab rfl (Bf hl)) (Gm rfl (Af (Ax (Bx (σ:=Nat) (fun s=>([(3,I64 (0)),(6,v),(7,I64 (((xs.length:Nat):Int))),(8,I64 (((s:Nat):Int)))]:Env)) (fun s=>I) (fun s=>(s≤xs.length)∧(orL xs=orL (xs.drop s))) (fun s=>xs.length - s) (0) (show ((0:Nat)≤xs.length)∧(orL xs=orL (xs.drop (0:Nat))) from ⟨om,rfl⟩) (Ac rfl (Ac rfl (Ac rfl (Ac Cb Bq)))) (show Fit κ _ (I) from Ay) ?_)))))))))))))
 rintro k hp
 obtain ⟨hk,ho⟩:=hp
 refine Ah (Gr (Bc rfl rfl) (Af (Ao (A9 rfl (fun c9=>?_) (fun c9=>?_)))))
 ·refine A0 (Ai (Ao (Ax (Ah (Gr (A8 (α:=Int) (xs:=xs) Ab ty3 rfl rfl (Bf hl) om om) (Gr (B2 (xs:=xs) ty3 rfl (Bf hl) om om) (Ga rfl (Af (Ah (Gm rfl (Gm rfl (Gr (Bv rfl rfl) (Af (A9 rfl (fun c14=>?_) (fun c14=>?_)))))))))))))))
  ·exact Ah (Gm rfl (Ga rfl (Af (A2 (Ar (Al (Al (Ar (Al (A7 rfl rfl (I) A4 ⟨by rw [ho,orL_stop om c14],rfl⟩))))))))))
  ·exact A0 (Aj (Ai (Aw (Gr (Rad rfl rfl) (Gm rfl (Bj (B6 ((k+1)) ⟨om,(ho.trans (orL_step om (Decidable.of_not_not c14)))⟩)))))))
 ·exact Bt (Ak (Ak (A6 (Ai (Ah (Gm rfl (Ga rfl (Af (A2 (A7 rfl rfl (I) A4 ⟨by rw [ho,orL_end om],rfl⟩))))))))))
end Go.Sl
namespace Go.Sl
structure GrOk (nodes:Int) (es:List Pt):Prop where
 rng:0≤nodes∧nodes≤64
 asc:AscP es
 edge:∀e∈es,0≤e.u∧e.u<e.v∧e.v<nodes
def badE(nodes:Int)(e:Pt):Int:=if e.u<0∨e.v≤e.u∨nodes≤e.v then 6 else 0
def checkG(nodes:Int)(es:List Pt):Int:=if nodes<0∨64<nodes then 1 else scanL (badE nodes) Pt.lt none es
theorem badE_zero{nodes:Int}{e:Pt}:badE nodes e=0↔0≤e.u∧e.u<e.v∧e.v<nodes:=by
 unfold badE;split<;>omega
theorem checkG_ok{nodes:Int}{es:List Pt}:checkG nodes es=0↔GrOk nodes es:=by
 unfold checkG
 split
 ·rename_i h
  exact ⟨fun e=>by omega,fun e=>by have:=e.rng;omega⟩
 ·rename_i h
  rw [scanL_zero Pt.lin]
  constructor
  ·rintro ⟨h1,h2⟩;exact ⟨by omega,h2,fun e he=>badE_zero.1 (h1 e he)⟩
  ·intro h1;exact ⟨fun e he=>badE_zero.2 (h1.edge e he),h1.asc⟩
variable {nodes:Int}{es:List Pt}
theorem GrOk.at(h:GrOk nodes es){k:Nat}(hk:k<es.length):0≤(at_ es (k:Int)).u∧(at_ es (k:Int)).u<(at_ es (k:Int)).v∧(at_ es (k:Int)).v<nodes:=h.edge _ (at_mem (by omega) (by omega))
theorem flt_yes{l:List Pt}{P:Pt→Bool}{k:Nat}(hk:k<l.length)(h:P (at_ l (k:Int))=true):(l.take (k+1)).filter P=(l.take k).filter P++[at_ l (k:Int)]:=by
 rw [take_at l k hk,List.filter_append];simp [h]
theorem flt_no{l:List Pt}{P:Pt→Bool}{k:Nat}(hk:k<l.length)(h:P (at_ l (k:Int))=false):(l.take (k+1)).filter P=(l.take k).filter P:=by
 rw [take_at l k hk,List.filter_append];simp [h]
theorem asc_nodup{l:List Pt}(h:AscP l):l.Nodup:=h.imp fun {a b} h e=>Pt.lin.ne h e
end Go.Sl
namespace Go.Sl
open Go.Proofs
set_option maxRecDepth 4000
theorem Before03_ok{κ:Ctx}{I:List Item}(a c:Pt) :
    CallS Tryz.prog κ 84 [.agg #[I64 (a.u),I64 (a.v)],.agg #[I64 (c.u),I64 (c.v)]] I (fun r J=>r = .bool (decide (Pt.lt a c))∧I=J):=by
 refine Ce2 Tryz.func84 rfl rfl ?_
 refine Ah (Ge1 (Bb (cs:=[_,_]) rfl rfl rfl) fun b1=>Ge1 (Bb (cs:=[_,_]) rfl rfl rfl) fun b2=>Ga rfl (Af (Ah (Gf fld135_0 rfl (Gl ty3 ?_)))))
 refine Gf fld135_0 rfl (Gl ty3 ?_)
 refine Gr (Bc rfl rfl) (Gm rfl (Bi (d:=10) rfl (fun g10=>?_) (fun g10=>?_)))
 ·exact Gpo (Gpo (Gpo (Gpo (Gpo (Gpo (Gpu (Gpu (Gpu (Gpu (Gpu (Gpo (Gr (Ap rfl rfl) (Ga rfl (Af (As (S1 4 rfl) (A2 (A7 rfl rfl (I) A4 ⟨(by first|exact congrArg Value.bool (decide_eq_decide.2 (by unfold Pt.lt;omega))|exact congrArg Value.bool (decide_eq_true (by unfold Pt.lt;omega)).symm|exact congrArg Value.bool (decide_eq_false (by unfold Pt.lt;omega)).symm),rfl⟩)))))))))))))))))
 ·refine Gro (Aa fld135_0 rfl) (Gro (Au ty3) ?_)
  refine Gro (Aa fld135_0 rfl) (Gro (Au ty3) ?_)
  refine Gro (Bs rfl rfl) (Gro (Ad rfl) (Bi (d:=16) rfl (fun g16=>?_) (fun g16=>?_)))
  ·refine Gro (Aa fld135_1 rfl) (Gro (Au ty3) ?_)
   refine Gro (Aa fld135_1 rfl) (Gro (Au ty3) ?_)
   exact Gro (Bc rfl rfl) (Gro (Ap rfl rfl) (Gr (Av rfl rfl) (Ga rfl (Af (As (S1 4 rfl) (A2 (A7 rfl rfl (I) A4 ⟨(by first|exact congrArg Value.bool (decide_eq_decide.2 (by unfold Pt.lt;omega))|exact congrArg Value.bool (decide_eq_true (by unfold Pt.lt;omega)).symm|exact congrArg Value.bool (decide_eq_false (by unfold Pt.lt;omega)).symm),rfl⟩)))))))
  ·exact Gpo (Gpo (Gpo (Gpo (Gpo (Gro (Av rfl rfl) (Gr (Av rfl rfl) (Ga rfl (Af (As (S1 4 rfl) (A2 (A7 rfl rfl (I) A4 ⟨(by first|exact congrArg Value.bool (decide_eq_decide.2 (by unfold Pt.lt;omega))|exact congrArg Value.bool (decide_eq_true (by unfold Pt.lt;omega)).symm|exact congrArg Value.bool (decide_eq_false (by unfold Pt.lt;omega)).symm),rfl⟩)))))))))))
def cmpL:List Int→List Int→Int
 |[],[]=>0
 |[],_::_=> -1
 |_::_,[]=>1
 |x::xs,y::ys=>if y<x then 1 else if x<y then -1 else cmpL xs ys
theorem cmpL_eq:∀xs ys,cmpL xs ys=0↔xs=ys
 |[],[]=>by simp [cmpL]
 |[],_::_=>by simp [cmpL]
 |_::_,[]=>by simp [cmpL]
 |x::xs,y::ys=>by
  simp only [cmpL]
  split
  ·simp;omega
  ·split
   ·simp;omega
   ·rw [cmpL_eq xs ys]
    have:x=y:=by omega
    simp [this]
theorem cmpL_drop(xs ys:List Int)(k:Nat)(hx:k<xs.length)(hy:k<ys.length)(h1:¬at_ ys (k:Int)<at_ xs (k:Int))(h2:¬at_ xs (k:Int)<at_ ys (k:Int)):cmpL (xs.drop k) (ys.drop k)=cmpL (xs.drop (k+1)) (ys.drop (k+1)):=by
 rw [D0 xs k hx,D0 ys k hy]
 simp only [cmpL]
 rw [if_neg h1,if_neg h2]
theorem cmpL_drop1(xs ys:List Int)(k:Nat)(hx:k<xs.length)(h:ys.length≤k∨(k<ys.length∧at_ ys (k:Int)<at_ xs (k:Int))):cmpL (xs.drop k) (ys.drop k)=1:=by
 rw [D0 xs k hx]
 rcases h with h|⟨hy,h⟩
 ·rw [List.drop_eq_nil_of_le h];rfl
 ·rw [D0 ys k hy];simp only [cmpL];rw [if_pos h]
theorem cmpL_dropn(xs ys:List Int)(k:Nat)(hx:k<xs.length)(hy:k<ys.length)(h1:¬at_ ys (k:Int)<at_ xs (k:Int))(h:at_ xs (k:Int)<at_ ys (k:Int)):cmpL (xs.drop k) (ys.drop k) = -1:=by
 rw [D0 xs k hx,D0 ys k hy];simp only [cmpL];rw [if_neg h1,if_pos h]
theorem cmpL_end(xs ys:List Int)(k:Nat)(hx:xs.length≤k):cmpL (xs.drop k) (ys.drop k)=if k<ys.length then -1 else 0:=by
 rw [List.drop_eq_nil_of_le hx]
 split
 ·rename_i h;rw [D0 ys k h];rfl
 ·rename_i h;rw [List.drop_eq_nil_of_le om];rfl
theorem Cmp_ok{κ:Ctx}{I:List Item}{u v:Value}{xs ys:List Int}(hu:Sl κ I u xs)(hv:Sl κ I v ys) :
    CallS Tryz.prog κ 61 [u,v] I (fun r J=>r=I64 (cmpL xs ys)∧I=J):=by
 refine B4 hu.le fun hmax=>?_
 refine B4 hv.le fun hmax2=>?_
 refine Ce2 Tryz.func61 rfl rfl ?_
 refine Ah (Ga rfl (Af (Ao (Ah (Gm rfl (Gr (Bz (α:=Int) (xs:=xs) Ab rfl (Bf hu)) (Gm rfl (Af (Ax (Bx (σ:=Nat) (fun s=>([(0,u),(1,v),(7,I64 (((xs.length:Nat):Int))),(8,I64 (((s:Nat):Int)))]:Env)) (fun s=>I) (fun s=>(s≤xs.length)∧(cmpL xs ys=cmpL (xs.drop s) (ys.drop s))) (fun s=>xs.length - s) (0) (show ((0:Nat)≤xs.length)∧(cmpL xs ys=cmpL (xs.drop (0:Nat)) (ys.drop (0:Nat))) from ⟨om,rfl⟩) (Ac rfl (Ac rfl (Ac rfl (Ac Cb Bq)))) (show Fit κ _ (I) from Ay) ?_))))))))))
 rintro k hp
 obtain ⟨hk,hc⟩:=hp
 refine Ah (Gr (Bc rfl rfl) (Af (Ao (A9 rfl (fun c9=>?_) (fun c9=>?_)))))
 ·refine A0 (Ai (Ao (Ax (Ah (Gm rfl (Ga rfl (Af (Ax (Ao (Bo mixed (Bu (I) 16 (Dr 0 rfl (Ad rfl) (Dr 1 rfl (Ad rfl) (Dr 2 rfl (Bz (α:=Int) (xs:=ys) Ab rfl (Bf hv)) (Dr 3 rfl (Cg rfl rfl) (Dr 4 rfl (Ad rfl) (D1 (d:=16) rfl (fun g16=>?_) (fun g16=>?_))))))))))))))))))
  ·exact Dpo 5 rfl (Dpo 6 rfl (Dpo 7 rfl (Dpo 8 rfl (Dpo 9 rfl (Dpo 10 rfl (Dpo 11 rfl (Dpo 12 rfl (Dpo 13 rfl (Dr 14 rfl (Ap rfl rfl) (Dr 15 rfl (Bd rfl) (Dz (Ai (As (S6 11 5 0 1 7 8 rfl rfl rfl rfl rfl rfl) (Cl rfl (Ah (Ga rfl (Af (A2 (Ar (Ar (Al (Al (Ar (Al (A7 rfl rfl (_) A4 ⟨by rw [hc,cmpL_drop1 xs ys k om (.inl om)],rfl⟩)))))))))))))))))))))))))
  ·refine Dro 5 rfl (Ad rfl) (Dro 6 rfl (Ad rfl) (Dro 7 rfl (A8 (α:=Int) (xs:=xs) Ab ty3 rfl rfl (Bf hu) om om) (Dro 8 rfl (B2 (xs:=xs) ty3 rfl (Bf hu) om om) (Dro 9 rfl (Ad rfl) (Dro 10 rfl (Ad rfl) (Dro 11 rfl (A8 (α:=Int) (xs:=ys) Ab ty3 rfl rfl (Bf hv) om om) (Dro 12 rfl (B2 (xs:=ys) ty3 rfl (Bf hv) om om) (Dro 13 rfl (B5 rfl rfl) (Dr 14 rfl (Av rfl rfl) (Dr 15 rfl (Bd rfl) (Dz (Ai (As (S6 11 5 0 1 7 8 rfl rfl rfl rfl rfl rfl) (A9 rfl (fun c11=>?_) (fun c11=>?_)))))))))))))))
   ·exact Ah (Ga rfl (Af (A2 (Ar (Ar (Al (Al (Ar (Al (A7 rfl rfl (_) A4 ⟨by rw [hc,cmpL_drop1 xs ys k om (.inr ⟨by omega,by omega⟩)],rfl⟩))))))))))
   ·refine Ao (Bo mixed (Bu (I) 10 (Dr 0 rfl (Ad rfl) (Dr 1 rfl (Ad rfl) (Dr 2 rfl (A8 (α:=Int) (xs:=xs) Ab ty3 rfl rfl (Bf hu) om om) (Dr 3 rfl (B2 (xs:=xs) ty3 rfl (Bf hu) om om) (Dr 4 rfl (Ad rfl) (Dr 5 rfl (Ad rfl) (Dr 6 rfl (A8 (α:=Int) (xs:=ys) Ab ty3 rfl rfl (Bf hv) om om) (Dr 7 rfl (B2 (xs:=ys) ty3 rfl (Bf hv) om om) (Dr 8 rfl (Bc rfl rfl) (Dr 9 rfl (Bd rfl) (Dz (Ai (As (S5 27 0 1 7 8 rfl rfl rfl rfl rfl) (A9 rfl (fun c27=>?_) (fun c27=>?_)))))))))))))))))
    ·exact Ah (Ga rfl (Af (A2 (Ar (Ar (Al (Al (Ar (Al (A7 rfl rfl (_) A4 ⟨by rw [hc,cmpL_dropn xs ys k om om om om],rfl⟩))))))))))
    ·exact A0 (Aj (Aj (Ai (Aw (Gr (Rad rfl rfl) (Gm rfl (Bj (B6 ((k+1)) ⟨om,(hc.trans (cmpL_drop xs ys k om om om om))⟩))))))))
 ·refine Bt (Ak (Ak (A6 (Ai (Ao (Ah (Gm rfl (Gr (Bz (α:=Int) (xs:=xs) Ab rfl (Bf hu)) (Gm rfl (Gr (Bz (α:=Int) (xs:=ys) Ab rfl (Bf hv)) (Gr (Bc rfl rfl) (Af (A9 rfl (fun c42=>?_) (fun c42=>?_))))))))))))))
  ·exact Ah (Ga rfl (Af (A2 (Al (A7 rfl rfl (_) A4 ⟨by rw [hc,cmpL_end xs ys k om,if_pos om],rfl⟩)))))
  ·exact A0 (Ai (Ah (Ga rfl (Af (A2 (A7 rfl rfl (_) A4 ⟨by rw [hc,cmpL_end xs ys k om,if_neg om],rfl⟩))))))
end Go.Sl
