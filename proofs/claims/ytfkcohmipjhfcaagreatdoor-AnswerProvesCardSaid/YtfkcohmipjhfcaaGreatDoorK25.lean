/- A part of the proofs of statements of this seat: contracts of functions, and the plain laws that they lean on. No conditions. -/
import Derived.Test.YtfkcohmipjhfcaaGreatDoorK1
import Derived.ProofKit
import Derived.OpenShut
import Derived.ChangeOld
import Derived.Below
import Derived.SizedLaws
import Derived.JoinedOf
import Derived.Deep.Slices
import Derived.Deep.Fields
set_option linter.unusedVariables false
set_option linter.unusedSimpArgs false
set_option linter.unusedSectionVars false
namespace Go.Sl
open Go.ChangeShapes Go.WideShapes Go.ChangeAt Go.RowKit Go.Deep
section
variable {κ:Ctx}{w w':World}{I:List Item}
theorem old_cell(hs:Sep κ w' I)(hm:old w.heap.size w∈I){b o:Nat}{u:Value}(hc:w.cell? ⟨b,o,none⟩=some u):w'.cell? ⟨b,o,none⟩=some u:=by
 have hok:∀k,k<w.heap.size->w'.heap[k]? = w.heap[k]? :=(hs.ok _ hm).1
 have hb:b<w.heap.size:=by
  refine Nat.not_le.1 λh=>?_
  simp [World.cell?,Array.getElem?_eq_none h] at hc
 have:=hok b hb
 simp only [World.cell?,this] at hc ⊢
 exact hc
def SlW{α:Type}[Enc α](w:World)(v:Value)(xs:List α):Prop:=slOk w (Enc.sz α) v xs.length (cells xs)
theorem SlW.sl{α:Type}[Enc α]{v:Value}{xs:List α}(h:SlW w v xs)(hm:old w.heap.size w∈I):Sl κ I v xs:=λw' hs=>by
 obtain ⟨a,cap,hv,h1,h2,h3,h4⟩:=h
 refine ⟨a,cap,hv,h1,h2,h3,λhc=>?_⟩
 obtain ⟨b,off,ha,hr⟩:=h4 hc
 exact ⟨b,off,ha,λj u hj=>old_cell hs hm (hr j u hj)⟩
end
section
variable {P:Program}{w:World}{r:Reach}{b0:Nat}{t:TypeId}{H:Type}{enc:TypeId×Value->H}{base:Nat}{spare:Nat->Bool}{held:Bool}
theorem spot_none{e:TypeId}{a:Addr}{len cap:Nat}(ht:P.underlying t=some (.slice e))(h:Cell.okWide P w r b0 t (.slice (some a) len cap)):a.spot=none:=by
 simp only [Cell.okWide,Cell.ok,ht] at h
 exact h.2.2.2.1
theorem InR_of{n:Int}(h:(Lit.int .i64 n).wf=true):InR n:=by
 simp only [Lit.wf,Bool.and_eq_true,decide_eq_true_eq] at h
 exact h
def Light(P:Program)(t:TypeId)(d:DataW H):Prop:=∀n∈d.weights P t,n<=reachBytes
theorem light_arg{ts:List TypeId}{ds:List (DataW H)}(h:(DataW.weightsEach P ts ds).all (· <= reachBytes)=true){j:Nat}{d:DataW H}(ht:ts[j]? = some t)(hd:ds[j]? = some d):Light P t d:=λn hn=>by
 have:=List.all_eq_true.1 h _ (DataW.weights_mem_each ht hd n hn)
 simpa using this
theorem light_slice{e:TypeId}{es sp:List (DataW H)}(ht:P.underlying t=some (.slice e))(h:Light P t (.slice es sp)):es.length*P.bytesOf e<=140737488351232:=by
 have h1:=h ((es.length+sp.length)*P.bytesOf e) (by simp [DataW.weights,ht])
 have h2:es.length*P.bytesOf e<=(es.length+sp.length)*P.bytesOf e:=Nat.mul_le_mul_right _ (by omega)
 simp only [reachBytes] at h1
 omega
theorem addr_eta{a:Addr}(h:a.spot=none):a=⟨a.block,a.off,none⟩:=by cases a;simp_all
theorem in_ints{e:TypeId}{v:Value}{fuel:Nat}{x:DataW H×List MemPlace}(ht:P.underlying t=some (.slice e))(he:P.underlying e=some (.int .i64))(hc:P.cellsOf e=1)
  (hv:Cell.okWide P w r b0 t v) (h:DataW.trod enc P w base spare held fuel t [v]=some x) (hw:Light P t x.1):∃(a:Option Addr) (c:Nat) (xs:List Int),v = .slice a xs.length c/\SlW w (.slice a xs.length c) xs/\(∀n∈xs,InR n)/\xs.length*P.bytesOf e<=140737488351232:=by
 rcases open_ints ht he hc h with ⟨hcs,_⟩|⟨a,l,c,zs,hcs,_,hl,hm,hz,hx,hcell,hwz⟩
 ·obtain rfl:v = .slice none 0 0:=by simpa using hcs
  exact ⟨none,0,[],rfl,⟨none,0,rfl,by simp [cells],Nat.le_refl _,by simp,λh=>by omega⟩,by simp,by simp⟩
 ·obtain rfl:v = .slice (some a) l c:=by simpa using hcs
  have hsp:=spot_none ht hv
  have hlen:l<=zs.length:=by rw [hz];split<;>omega
  have hxl:(zs.take l).length=l:=by rw [List.length_take];omega
  refine ⟨some a,c,zs.take l,by rw [hxl],⟨some a,c,rfl,cells_length _,by rw [hxl];exact hl,hm,λhc0=>⟨a.block,a.off,by rw [←addr_eta hsp],λj u hj=>?_⟩⟩,λn hn=>InR_of (hwz n (List.mem_of_mem_take hn)),by
   rw [hx] at hw
   have:=light_slice ht hw
   simpa [lits] using this⟩
  have hjl:j<l:=by
   have:=(List.getElem?_eq_some_iff.1 hj).1
   rw [cells_length,hxl] at this
   have e1:Enc.sz Int=1:=rfl
   rw [e1] at this;omega
  have h1:=cells_get (zs.take l) j 0 (by omega) (by decide)
  have e1:j*Enc.sz Int+0=j:=by show j*1+0=j;omega
  rw [e1] at h1
  rw [h1] at hj
  have h2:=hcell j (by omega)
  rw [addr_eta hsp,addr_add] at h2
  have h3:u=e7 (zs.getD j 0):=by
   have h4:some (e7 ((zs.take l)[j]'(by omega)))=some u:=hj
   simp only [Option.some.injEq] at h4
   rw [←h4]
   simp [List.getD_eq_getElem?_getD,List.getElem?_eq_getElem (show j<zs.length by omega)]
  rw [h3];exact h2
theorem arg_cell{v:Value}{d:DataW H}{ps:List MemPlace}{e:TypeId}(ht:P.underlying t=some (.slice e))(hv:Value.okWide P w r b0 t v)(h:DataW.Trod enc P w base spare held t v d ps):Cell.okWide P w r b0 t v/\∃fuel,DataW.trod enc P w base spare held fuel t [v]=some (d,ps):=by
 obtain ⟨a,len,cap,rfl⟩:=okWide_slice ht hv
 simp only [Value.okWide,ht] at hv
 obtain ⟨fuel,hf⟩:=h
 exact ⟨hv,fuel,by simpa [Value.cells] using hf⟩
theorem joined_mk{P:Program}{f:FuncId}{fn:Func}{s:ChangeSpec}{c:OpenClaim}(h1:(c.wf (OpenSpec.ofChange s))=true)(h2:(laidOutB P)=true)(h3:(mapsRowed P)=true)(h4:(fn.params.all (P.readableRec ·))=true)(h5:(namedTie P c.named s.vars)=true)(h6:((c.stops==[]))=true)(h7:((P.stops==[]))=true)(h8:((c.knobs==[]))=true)(h9:((P.stopKnobs==[]))=true)(h10:((c.inPlace==P.inPlace f))=true)(h11:((c.unfollowed==P.unfollowed f))=true)(h12:((c.recurses==P.recurses f))=true)(h13:((c.named==P.varsNamed f))=true)(h14:((c.maps==(fn.params.toList++s.plain.varTypes P).any (P.mapsRec ·)))=true)(h15:((c.ifaces==(fn.params.toList++s.plain.varTypes P).any (P.ifacesRec ·)))=true)(h16:((c.mapsOut==P.mapsAmong fn.resultTypes.toList))=true)(h17:((c.loops==(fn.params.toList++s.plain.varTypes P).any (P.loopsFrom ·)))=true)(h18:((c.wideKeys==(fn.params.toList++s.plain.varTypes P++fn.resultTypes.toList).any (P.wideKeysFrom ·)))=true)(h19:(s.vars.all (P.varReadable ·))=true)(h20:(fn.resultTypes.all (λt=>P.readableRec t&&decide (t<P.types.size)))=true)(h21:((c.ifacesOut==fn.resultTypes.toList.any (P.ifacesRec ·)))=true)(h22:((c.loopsOut==fn.resultTypes.toList.any (P.loopsFrom ·)))=true)(h23:((c.plainKeys==P.plainKeys))=true)(h24:(c.shortTexts.isNone)=true)(h25:(P.stopsHeard)=true)(h26:(P.mayEnter)=true)(h27:((c.lifted==P.liftsFinal))=true)(h28:((P.make==some c.make))=true)(h29:((c.kinds==(if c.domain.isEmpty then [] else fn.params.toList.map λt=>match P.underlying t with |some (.int k)=>some k|_=>none)))=true)(h30:((c.pinned==c.pinnedBy))=true)(h31:((c.veiled==(fn.params.toList++s.plain.varTypes P++fn.resultTypes.toList).any (P.veiledRec ·)))=true)(h32:(c.veiledFits P fn.params.toList (fn.params.toList++s.plain.varTypes P++fn.resultTypes.toList))=true):joinedFacts P f fn s c=true:=by
 unfold joinedFacts
 exact (Bool.and_eq_true_iff.2 ⟨(Bool.and_eq_true_iff.2 ⟨(Bool.and_eq_true_iff.2 ⟨(Bool.and_eq_true_iff.2 ⟨(Bool.and_eq_true_iff.2 ⟨(Bool.and_eq_true_iff.2 ⟨(Bool.and_eq_true_iff.2 ⟨(Bool.and_eq_true_iff.2 ⟨(Bool.and_eq_true_iff.2 ⟨(Bool.and_eq_true_iff.2 ⟨(Bool.and_eq_true_iff.2 ⟨(Bool.and_eq_true_iff.2 ⟨(Bool.and_eq_true_iff.2 ⟨(Bool.and_eq_true_iff.2 ⟨(Bool.and_eq_true_iff.2 ⟨(Bool.and_eq_true_iff.2 ⟨(Bool.and_eq_true_iff.2 ⟨(Bool.and_eq_true_iff.2 ⟨(Bool.and_eq_true_iff.2 ⟨(Bool.and_eq_true_iff.2 ⟨(Bool.and_eq_true_iff.2 ⟨(Bool.and_eq_true_iff.2 ⟨(Bool.and_eq_true_iff.2 ⟨(Bool.and_eq_true_iff.2 ⟨(Bool.and_eq_true_iff.2 ⟨(Bool.and_eq_true_iff.2 ⟨(Bool.and_eq_true_iff.2 ⟨(Bool.and_eq_true_iff.2 ⟨(Bool.and_eq_true_iff.2 ⟨(Bool.and_eq_true_iff.2 ⟨(Bool.and_eq_true_iff.2 ⟨h1,h2⟩),h3⟩),h4⟩),h5⟩),h6⟩),h7⟩),h8⟩),h9⟩),h10⟩),h11⟩),h12⟩),h13⟩),h14⟩),h15⟩),h16⟩),h17⟩),h18⟩),h19⟩),h20⟩),h21⟩),h22⟩),h23⟩),h24⟩),h25⟩),h26⟩),h27⟩),h28⟩),h29⟩),h30⟩),h31⟩),h32⟩)
theorem calls_below{f:FuncId}{args:List Value}(h:eu P ⟨w.os,w.tape,w.output,w.drawn⟩ f args [old w.heap.size w] λr J=>r = .bool true/\[old w.heap.size w]=J) :
  Calls P f args.toArray w λe w'=>e = .returned (.bool true)/\Below w.heap.size w w':=
 (h w (Sep.begin w)).mono λe w' ⟨v,J,he,⟨hv,hJ⟩,hs⟩=>by
  subst hv hJ
  exact ⟨he,hs.below List.mem_cons_self⟩
end
end Go.Sl
