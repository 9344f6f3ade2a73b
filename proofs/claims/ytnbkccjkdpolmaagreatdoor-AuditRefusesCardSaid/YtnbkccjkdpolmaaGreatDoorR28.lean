/- A part of the proofs of statements of this seat: contracts of functions, and the plain laws that they lean on. No conditions. -/
import Derived.Test.YtnbkccjkdpolmaaGreatDoorR1
import Derived.ProofKit
import Derived.OpenShut
import Derived.ChangeOld
import Derived.Below
import Derived.SizedLaws
import Derived.JoinedOf
import Derived.Deep.Slices
import Derived.Deep.Fields
set_option linter.unusedVariables false
set_option linter.unusedSimpArgs false
set_option linter.unusedSectionVars false
namespace Go.Sl
open Go.ChangeShapes Go.WideShapes Go.ChangeAt Go.RowKit Go.Deep
variable{v:Value}{e:TypeId}{a:Addr}
section
variable {κ:Ctx}{w w':World}{I:List Item}
theorem old_cell(hs:Sep κ w' I)(hm:old w.heap.size w∈I){b o:Nat}{u:Value}(hc:w.cell? ⟨b,o,none⟩=some u):w'.cell? ⟨b,o,none⟩=some u:=by
 have M:∀k,k<w.heap.size->w'.heap[k]? = w.heap[k]? :=(hs.ok _ hm).1
 have hb:b<w.heap.size:=by
  refine Nat.not_le.1 λh=>?_
  simp [World.cell?,Array.getElem?_eq_none h] at hc
 have:=M b hb
 simp only [World.cell?,this] at hc ⊢
 exact hc
def SlW{α:Type}[Enc α](w:World)(v:Value)(xs:List α):Prop:=slOk w (Enc.sz α) v xs.length (cells xs)
theorem SlW.sl{α:Type}[Enc α]{xs:List α}(h:SlW w v xs)(M:old w.heap.size w∈I):Sl κ I v xs:=λw' hs=>by
 obtain ⟨a,cap,hv,h1,h2,h3,h4⟩:=h
 refine ⟨a,cap,hv,h1,h2,h3,λhc=>?_⟩
 obtain ⟨b,off,ha,hr⟩:=h4 hc
 exact ⟨b,off,ha,λj u hj=>old_cell hs M<|hr j u hj⟩
end
section
variable {P:Program}{w:World}{r:Reach}{b0:Nat}{t:TypeId}{H:Type}{enc:TypeId×Value->H}{base:Nat}{spare:Nat->Bool}{held:Bool}
theorem spot_none{len cap:Nat}(M:P.underlying t=some (.slice e))(h:Cell.okWide P w r b0 t (.slice (some a) len cap)):a.spot=none:=by
 simp only [Cell.okWide,Cell.ok,M] at h
 exact h.2.2.2.1
theorem InR_of{n:Int}(h:(Lit.int .i64 n).wf=true):InR n:=by
 simp only [Lit.wf,Bool.and_eq_true,decide_eq_true_eq] at h
 exact h
def Light(P:Program)(t:TypeId)(d:DataW H):Prop:=∀n∈d.weights P t,n<=reachBytes
theorem light_arg{M:List TypeId}{ds:List (DataW H)}(h:(DataW.weightsEach P M ds).all (· <= reachBytes)=true){j:Nat}{d:DataW H}(ht:M[j]? = some t)(hd:ds[j]? = some d):Light P t d:=λn hn=>by
 have:=List.all_eq_true.1 h _ (DataW.weights_mem_each ht hd n hn)
 simpa using this
theorem light_slice{es sp:List (DataW H)}(ht:P.underlying t=some (.slice e))(h:Light P t (.slice es sp)):es.length*P.bytesOf e<=140737488351232:=by
 have M:=h ((es.length+sp.length)*P.bytesOf e) (by simp [DataW.weights,ht])
 have h2:es.length*P.bytesOf e<=(es.length+sp.length)*P.bytesOf e:=Nat.mul_le_mul_right _ (by omega)
 simp only [reachBytes] at M
 omega
theorem addr_eta(h:a.spot=none):a=⟨a.block,a.off,none⟩:=by cases a;simp_all
theorem in_ints{fuel:Nat}{x:DataW H×List MemPlace}(ht:P.underlying t=some (.slice e))(he:P.underlying e=some (.int .i64))(hc:P.cellsOf e=1)
  (hv:Cell.okWide P w r b0 t v) (h:DataW.trod enc P w base spare held fuel t [v]=some x) (hw:Light P t x.1):∃(a:Option Addr) (c:Nat) (xs:List Int),v = .slice a xs.length c/\SlW w (.slice a xs.length c) xs/\(∀n∈xs,InR n)/\xs.length*P.bytesOf e<=140737488351232:=by
 rcases open_ints ht he hc h with ⟨M,_⟩|⟨a,l,c,zs,M,_,hl,hm,hz,hx,ab,ae⟩
 ·obtain rfl:v = .slice none 0 0:=by simpa using M
  exact ⟨none,0,[],rfl,⟨none,0,rfl,by simp [cells],Nat.le_refl _,by simp,λh=>by omega⟩,by simp,by simp⟩
 obtain rfl:v = .slice (some a) l c:=by simpa using M
 have ad:=spot_none ht hv
 have hlen:l<=zs.length:=by rw [hz];split<;>omega
 have aa:(zs.take l).length=l:=by rw [List.length_take];omega
 refine ⟨some a,c,zs.take l,by rw [aa],⟨some a,c,rfl,cells_length _,by rw [aa];exact hl,hm,λah=>⟨a.block,a.off,by rw [←addr_eta ad],λj u hj=>?_⟩⟩,λn hn=>InR_of (ae n (List.mem_of_mem_take hn)),by
  rw [hx] at hw
  have:=light_slice ht hw
  simpa [lits] using this⟩
 have ai:j<l:=by
  have:=(List.getElem?_eq_some_iff.1 hj).1
  rw [cells_length,aa] at this
  have e1:Enc.sz Int=1:=rfl
  rw [e1] at this;omega
 have h1:=cells_get (zs.take l) j 0 (by omega) (by decide)
 have e1:j*Enc.sz Int+0=j:=by show j*1+0=j;omega
 rw [e1] at h1
 rw [h1] at hj
 have h2:=ab j (by omega)
 rw [addr_eta ad,addr_add] at h2
 have h3:u=e7 (zs.getD j 0):=by
  have h4:some (e7<|(zs.take l)[j]'(by omega))=some u:=hj
  simp only [Option.some.injEq] at h4
  rw [←h4]
  simp [List.getD_eq_getElem?_getD,List.getElem?_eq_getElem (show j<zs.length by omega)]
 rw [h3];exact h2
theorem arg_cell{d:DataW H}{ps:List MemPlace}(ht:P.underlying t=some (.slice e))(M:Value.okWide P w r b0 t v)(h:DataW.Trod enc P w base spare held t v d ps):Cell.okWide P w r b0 t v/\∃fuel,DataW.trod enc P w base spare held fuel t [v]=some (d,ps):=by
 obtain ⟨a,len,cap,rfl⟩:=okWide_slice ht M
 simp only [Value.okWide,ht] at M
 obtain ⟨fuel,hf⟩:=h
 exact ⟨M,fuel,by simpa [Value.cells] using hf⟩
theorem joined_mk{P:Program}{f:FuncId}{M:Func}{s:ChangeSpec}{c:OpenClaim}(h1:(c.wf (OpenSpec.ofChange s))=true)(h2:(laidOutB P)=true)(h3:(mapsRowed P)=true)(h4:(M.params.all (P.readableRec ·))=true)(h5:(namedTie P c.named s.vars)=true)(h6:((c.stops==[]))=true)(h7:((P.stops==[]))=true)(h8:((c.knobs==[]))=true)(h9:((P.stopKnobs==[]))=true)(az:((c.inPlace==P.inPlace f))=true)(a1:((c.unfollowed==P.unfollowed f))=true)(av:((c.recurses==P.recurses f))=true)(an:((c.named==P.varsNamed f))=true)(ad:((c.maps==(M.params.toList++s.plain.varTypes P).any (P.mapsRec ·)))=true)(ap:((c.ifaces==(M.params.toList++s.plain.varTypes P).any (P.ifacesRec ·)))=true)(ah:((c.mapsOut==P.mapsAmong M.resultTypes.toList))=true)(ax:((c.loops==(M.params.toList++s.plain.varTypes P).any (P.loopsFrom ·)))=true)(aw:((c.wideKeys==(M.params.toList++s.plain.varTypes P++M.resultTypes.toList).any (P.wideKeysFrom ·)))=true)(au:(s.vars.all (P.varReadable ·))=true)(ak:(M.resultTypes.all (λt=>P.readableRec t&&decide (t<P.types.size)))=true)(ar:((c.ifacesOut==M.resultTypes.toList.any (P.ifacesRec ·)))=true)(a4:((c.loopsOut==M.resultTypes.toList.any (P.loopsFrom ·)))=true)(ao:((c.plainKeys==P.plainKeys))=true)(a3:(c.shortTexts.isNone)=true)(ai:(P.stopsHeard)=true)(ab:(P.mayEnter)=true)(aj:((c.lifted==P.liftsFinal))=true)(ay:((P.make==some c.make))=true)(ae:((c.kinds==(if c.domain.isEmpty then [] else M.params.toList.map λt=>match P.underlying t with |some (.int k)=>some k|_=>none)))=true)(aa:((c.pinned==c.pinnedBy))=true)(a0:((c.veiled==(M.params.toList++s.plain.varTypes P++M.resultTypes.toList).any (P.veiledRec ·)))=true)(aq:(c.veiledFits P M.params.toList (M.params.toList++s.plain.varTypes P++M.resultTypes.toList))=true):joinedFacts P f M s c=true:=by
 unfold joinedFacts
 exact (Bool.and_eq_true_iff.2 ⟨(Bool.and_eq_true_iff.2 ⟨(Bool.and_eq_true_iff.2 ⟨(Bool.and_eq_true_iff.2 ⟨(Bool.and_eq_true_iff.2 ⟨(Bool.and_eq_true_iff.2 ⟨(Bool.and_eq_true_iff.2 ⟨(Bool.and_eq_true_iff.2 ⟨(Bool.and_eq_true_iff.2 ⟨(Bool.and_eq_true_iff.2 ⟨(Bool.and_eq_true_iff.2 ⟨(Bool.and_eq_true_iff.2 ⟨(Bool.and_eq_true_iff.2 ⟨(Bool.and_eq_true_iff.2 ⟨(Bool.and_eq_true_iff.2 ⟨(Bool.and_eq_true_iff.2 ⟨(Bool.and_eq_true_iff.2 ⟨(Bool.and_eq_true_iff.2 ⟨(Bool.and_eq_true_iff.2 ⟨(Bool.and_eq_true_iff.2 ⟨(Bool.and_eq_true_iff.2 ⟨(Bool.and_eq_true_iff.2 ⟨(Bool.and_eq_true_iff.2 ⟨(Bool.and_eq_true_iff.2 ⟨(Bool.and_eq_true_iff.2 ⟨(Bool.and_eq_true_iff.2 ⟨(Bool.and_eq_true_iff.2 ⟨(Bool.and_eq_true_iff.2 ⟨(Bool.and_eq_true_iff.2 ⟨(Bool.and_eq_true_iff.2 ⟨(Bool.and_eq_true_iff.2 ⟨h1,h2⟩),h3⟩),h4⟩),h5⟩),h6⟩),h7⟩),h8⟩),h9⟩),az⟩),a1⟩),av⟩),an⟩),ad⟩),ap⟩),ah⟩),ax⟩),aw⟩),au⟩),ak⟩),ar⟩),a4⟩),ao⟩),a3⟩),ai⟩),ab⟩),aj⟩),ay⟩),ae⟩),aa⟩),a0⟩),aq⟩)
theorem calls_below{f:FuncId}{M:List Value}(h:eu P ⟨w.os,w.tape,w.output,w.drawn⟩ f M [old w.heap.size w] λr J=>r = .bool true/\[old w.heap.size w]=J) :
  Calls P f M.toArray w λe w'=>e = .returned (.bool true)/\Below w.heap.size w w':=
 (h w<|Sep.begin w).mono λe w' ⟨v,J,he,⟨hv,hJ⟩,hs⟩=>by
  subst hv hJ
  exact ⟨he,hs.below List.mem_cons_self⟩
end
end Go.Sl
