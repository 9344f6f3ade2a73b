/- A part of the proofs of statements of this seat: contracts of functions, and the plain laws that they lean on. No conditions. -/
import Derived.Test.YtfkcohmipjhfcaaGreatDoorB1
import Derived.ProofKit
import Derived.OpenShut
import Derived.ChangeOld
import Derived.Below
import Derived.SizedLaws
import Derived.JoinedOf
import Derived.Deep.Slices
import Derived.Deep.Fields
set_option linter.unusedVariables false
set_option linter.unusedSimpArgs false
set_option linter.unusedSectionVars false
namespace Go.Sl
open Go.ChangeShapes Go.WideShapes Go.ChangeAt Go.RowKit Go.Deep
variable{u v:Value}{e:TypeId}{a:Addr}{fuel j:Nat}{ps:List MemPlace}
section
variable {κ:Ctx}{w w':World}{I:List Item}
theorem cv7(hs:Sep κ w' I)(hm:old w.heap.size w∈I){b o:Nat}(M:w.cell? ⟨b,o,none⟩=some u):w'.cell? ⟨b,o,none⟩=some u:=by
 have E:∀k,k<w.heap.size->w'.heap[k]? = w.heap[k]? :=(hs.ok _ hm).1
 have hb:b<w.heap.size:=by
  refine Nat.not_le.1 λh=>?_
  simp [World.cell?,Array.getElem?_eq_none h] at M
 have:=E b hb
 simp only [World.cell?,this] at M ⊢
 exact M
def SlW{α:Type}[Enc α](w:World)(v:Value)(xs:List α):Prop:=dn0 w (Enc.sz α) v xs.length (cells xs)
theorem SlW.sl{α:Type}[Enc α]{xs:List α}(h:SlW w v xs)(M:old w.heap.size w∈I):Sl κ I v xs:=λw' hs=>by
 obtain ⟨a,cap,hv,h1,h2,h3,h4⟩:=h
 refine ⟨a,cap,hv,h1,h2,h3,λE=>?_⟩
 obtain ⟨b,off,ha,hr⟩:=h4 E
 exact ⟨b,off,ha,λj u hj=>cv7 hs M<|hr j u hj⟩
end
section
variable {P:Program}{w:World}{r:Reach}{b0:Nat}{t:TypeId}{H:Type}{enc:TypeId×Value->H}{base:Nat}{spare:Nat->Bool}{held:Bool}
theorem cb4{len cap:Nat}(M:P.underlying t=some (.slice e))(h:Cell.okWide P w r b0 t (.slice (some a) len cap)):a.spot=none:=by
 simp only [Cell.okWide,Cell.ok,M] at h
 exact h.2.2.2.1
theorem db5{n:Int}(h:(Lit.int .i64 n).wf=true):InR n:=by
 simp only [Lit.wf,Hi,Gn] at h
 exact h
def cj4(P:Program)(t:TypeId)(d:DataW H):Prop:=∀n∈d.weights P t,n<=reachBytes
theorem bg9{M:List TypeId}{ds:List (DataW H)}(h:(DataW.weightsEach P M ds).all (· <= reachBytes)=true){d:DataW H}(E:M[j]? = some t)(hd:ds[j]? = some d):cj4 P t d:=λn hn=>by
 have:=Nx.1 h _ (DataW.weights_mem_each E hd n hn)
 simpa using this
theorem df4{fs:Array Field}{M:List (DataW H)}(hs:P.underlying t=some (.struct fs))(h:cj4 P t (.agg M)){f:Field}{d:DataW H}(E:fs[j]? = some f)(hd:M[j]? = some d):cj4 P f.type d:=λn hn=>by
 refine h n ?_
 simp only [DataW.weights,hs]
 exact DataW.weights_mem_each (j:=j) (t:=f.type) (by simp [E]) hd n hn
theorem bg8{es sp:List (DataW H)}(E:P.underlying t=some (.slice e))(h:cj4 P t (.slice es sp)):es.length*P.bytesOf e<=140737488351232:=by
 have M:=h ((es.length+sp.length)*P.bytesOf e) (by simp [DataW.weights,E])
 have h2:es.length*P.bytesOf e<=(es.length+sp.length)*P.bytesOf e:=Hs _ (by omega)
 simp only [reachBytes] at M
 omega
theorem an7(h:a.spot=none):a=⟨a.block,a.off,none⟩:=by cases a;simp_all
theorem fz0{x:DataW H×List MemPlace}(ht:P.underlying t=some (.slice e))(he:P.underlying e=some (.int .i64))(hc:P.cellsOf e=1)
  (hv:Cell.okWide P w r b0 t v) (h:DataW.trod enc P w base spare held fuel t [v]=some x) (hw:cj4 P t x.1):∃(a:Option Addr) (c:Nat) (xs:List Int),v = .slice a xs.length c/\SlW w (.slice a xs.length c) xs/\(∀n∈xs,InR n)/\xs.length*P.bytesOf e<=140737488351232:=by
 rcases open_ints ht he hc h with ⟨aa,_⟩|⟨a,l,c,zs,aa,_,hl,hm,hz,hx,E,ad⟩
 ·obtain rfl:v = .slice none 0 0:=by simpa using aa
  exact ⟨none,0,[],rfl,⟨none,0,rfl,by simp [cells],Gk _,by simp,λh=>by omega⟩,by simp,by simp⟩
 obtain rfl:v = .slice (some a) l c:=by simpa using aa
 have ab:=cb4 ht hv
 have hlen:l<=zs.length:=by rw [hz];split<;>omega
 have M:(zs.take l).length=l:=by rw [Fx];omega
 refine ⟨some a,c,zs.take l,by rw [M],⟨some a,c,rfl,n3 _,by rw [M];exact hl,hm,λae=>⟨a.block,a.off,by rw [←an7 ab],λj u hj=>?_⟩⟩,λn hn=>db5 (ad n (Lh hn)),by
  rw [hx] at hw
  have:=bg8 ht hw
  simpa [lits] using this⟩
 have ah:j<l:=by
  have:=(He.1 hj).1
  rw [n3,M] at this
  have e1:Enc.sz Int=1:=rfl
  rw [e1] at this;omega
 have h1:=T5 (zs.take l) j 0 (by omega) (by decide)
 have e1:j*Enc.sz Int+0=j:=by show j*1+0=j;omega
 rw [e1] at h1
 rw [h1] at hj
 have h2:=E j (by omega)
 rw [an7 ab,y5] at h2
 have h3:u=e7 (zs.getD j 0):=by
  have h4:some (e7<|(zs.take l)[j]'(by omega))=some u:=hj
  simp only [Ka] at h4
  rw [←h4]
  simp [Gs,Hd (show j<zs.length by omega)]
 rw [h3];exact h2
theorem fz1{α:Type}[Enc α][Inhabited α](mk:(Nat->Int)->α){fs:Array Field}{x:DataW H×List MemPlace}(hmk:∀f,Enc.enc (mk f)=(List.range fs.size).map λj=>e7 (f j))(hsz:Enc.sz α=fs.size)
  (ht:P.underlying t=some (.slice e)) (he:P.underlying e=some (.struct fs)) (hone:oneCellFields P fs=true) (hC:P.cellsOf e=fs.size) (hint:∀(j:Nat) (f:Field),fs[j]? = some f->P.underlying f.type=some (.int .i64))
  (hv:Cell.okWide P w r b0 t v) (h:DataW.trod enc P w base spare held fuel t [v]=some x) (hw:cj4 P t x.1):∃(a:Option Addr) (c:Nat) (xs:List α),v = .slice a xs.length c/\SlW w (.slice a xs.length c) xs/\(∀y∈xs,∃f,y=mk f/\∀j,j<fs.size->InR (f j))/\xs.length*P.bytesOf e<=140737488351232:=by
 rcases open_slice ht h with ⟨hcs,_⟩|⟨a,len,cap,m,n,D,Pl,hcs,hb,hl,hm,hmm,hx,hi⟩
 ·obtain rfl:v = .slice none 0 0:=by simpa using hcs
  exact ⟨none,0,[],rfl,⟨none,0,rfl,by simp [cells],Gk _,by simp,λh=>by omega⟩,by simp,by simp⟩
 obtain rfl:v = .slice (some a) len cap:=by simpa using hcs
 have hsp:=cb4 ht hv
 have hlm:len<=m:=by rw [hmm];split<;>omega
 -- the numbers
 have hcell:∀i,i<len->∀j,j<fs.size->∃q:Int,w.cell? ⟨a.block,a.off+(i*fs.size+j),none⟩=some (e7 q)/\InR q:=λi hi' j hj=>by
  obtain ⟨cs',hc',ht'⟩:=hi i (by omega)
  rw [hC] at hc'
  obtain ⟨ys,n',hn',hy,hlen,hyl,hf⟩:=DataW.trod_struct he ht'
  obtain ⟨_,hcl,hat⟩:=World.cells?_some hc'
  obtain ⟨ho,hk⟩:=hone_of hone j fs[j] (Ld hj)
  have hc1:=hat j (by omega)
  have h1:=hf j fs[j] (Ld hj)
  rw [ho,hk] at h1
  have hone':(cs'.drop j).take 1=[cs'[j]'(by omega)]:=by
   rw [Hp (by omega)];rfl
  rw [hone',Hd (by omega)] at h1
  obtain ⟨q,hq,_,hwf⟩:=DataW.trod_int (hint j fs[j] (Ld hj)) h1
  have hq':cs'[j]'(by omega)=e7 q:=by simpa using hq
  refine ⟨q,?_,db5 hwf⟩
  rw [Go.Deep.add_add,an7 hsp,y5] at hc1
  rw [hc1,Hd (by omega),hq']
 have hall:∃q:Nat->Nat->Int,∀i,i<len->∀j,j<fs.size->w.cell? ⟨a.block,a.off+(i*fs.size+j),none⟩=some (e7<|q i j)/\InR (q i j):=by
  refine ⟨λi j=>if hij:i<len/\j<fs.size then Classical.choose (hcell i hij.1 j hij.2) else 0,λi hi' j hj=>?_⟩
  simp only [dif_pos (show i<len/\j<fs.size from ⟨hi',hj⟩)]
  exact Classical.choose_spec<|hcell i hi' j hj
 obtain ⟨q,hq⟩:=hall
 have hxl:((List.range len).map λi=>mk<|q i).length=len:=by simp
 refine ⟨some a,cap,(List.range len).map λi=>mk (q i),by rw [hxl],⟨some a,cap,rfl,n3 _,by rw [hxl];exact hl,hm,λhc0=>⟨a.block,a.off,by rw [←an7 hsp],λj u hj=>?_⟩⟩,λy hy=>?_,by
  rw [hx] at hw
  have:=bg8 ht hw
  simpa using this⟩
 ·have hjl:=(He.1 hj).1
  rw [n3,hxl,hsz] at hjl
  have hpos:0<fs.size:=by rw [←hsz];exact Enc.pos
  have hi1:j / fs.size<len:=Nat.div_lt_of_lt_mul (by rw [Kh];exact hjl)
  have hj1:j % fs.size<fs.size:=Na _ hpos
  have hsplit:j=j / fs.size*Enc.sz α+j % fs.size:=by rw [hsz,Kh];exact (Nat.div_add_mod j fs.size).symm
  rw [hsplit,T5 _ (j / fs.size) (j % fs.size) (by rw [hxl];exact hi1)<|by rw [hsz];exact hj1] at hj
  simp only [Kf,List.getElem_range,hmk] at hj
  rw [Ks,Mx hj1] at hj
  have hu:u=e7 (q (j / fs.size)<|j % fs.size):=by simpa using hj.symm
  rw [hu]
  have:=(hq _ hi1 _ hj1).1
  rw [hsz] at hsplit
  rw [←hsplit] at this
  exact this
 obtain ⟨i,hi',rfl⟩:=Ha.1 hy
 exact ⟨q i,rfl,λj hj=>(hq i (Ht.1 hi') j hj).2⟩
def fk0:Option TypeDesc->Bool
 |some (.int .i64)=>true
 |_=>false
theorem dg4{fs:Array Field}(h:(fs.all λf=>fk0 (P.underlying f.type))=true):∀(j:Nat) (f:Field),fs[j]? = some f->P.underlying f.type=some (.int .i64):=λj f hj=>by
 obtain ⟨hlt,rfl⟩:=Jy.1 hj
 have M:=Array.all_eq_true.1 h j hlt
 revert M
 cases P.underlying fs[j].type with
 |none=>simp [fk0]
 |some d=>
  cases d<;>simp [fk0]
  rename_i k
  cases k<;>simp [fk0]
theorem dv0{fs:Array Field}{d:DataW H}(hs:P.underlying t=some (.struct fs))(ad:oneCellFields P fs=true)(hC:P.cellsOf t=fs.size)(aj:P.cellTypes P.depth t=some (fs.toList.map (·.type)))
  (hv:Value.okWide P w r b0 t v) (h:DataW.Trod enc P w base spare held t v d ps) (hw:cj4 P t d) :
  ∃l:List Value,v = .agg l.toArray/\l.length=fs.size/\∀(j:Nat) (f:Field),fs[j]? = some f->∃(u:Value) (n:Nat) (y:DataW H×List MemPlace),l[j]? = some u/\Cell.okWide P w r b0 f.type u/\DataW.trod enc P w base spare held n f.type [u]=some y/\cj4 P f.type y.1:=by
 simp only [Value.okWide,hs] at hv
 obtain ⟨cs,rfl,aa,ts,M,_,E⟩:=hv
 rw [aj] at M
 obtain rfl:fs.toList.map (·.type)=ts:=by simpa using M
 obtain ⟨l⟩:=cs
 have hl:l.length=fs.size:=by rw [←hC];exact aa
 refine ⟨l,rfl,hl,λj f hj=>?_⟩
 have ai:j<fs.size:=(Jy.1 hj).1
 obtain ⟨fuel,hf⟩:=h
 obtain ⟨xs,n,_,hx,_,hlen,hg⟩:=DataW.trod_struct hs hf
 obtain ⟨ho,hk⟩:=hone_of ad j f hj
 have hd:d = .agg (xs.map (·.1)):=Fz Prod.fst hx
 have h1:=hg j f hj
 rw [ho,hk] at h1
 have ab:(((Value.agg l.toArray).cells.toList).drop j).take 1=[l[j]'(by omega)]:=by
  simp only [Value.cells]
  rw [Hp (by omega)];rfl
 rw [ab,Hd (by omega)] at h1
 obtain ⟨u,hu,hc⟩:=E j (l[j]'(by omega)) (by simp)
 have hm:j % (fs.toList.map (·.type)).length=j:=Kl (by simpa using ai)
 rw [hm] at hu
 have ae:u=f.type:=by
  have:fs.toList[j]? = some f:=by simpa using hj
  simp [this] at hu
  exact hu.symm
 rw [ae] at hc
 have ah:xs[j]? = some (xs[j]'(by omega)):=Hd (by omega)
 rw [hd] at hw
 exact ⟨_,n,xs[j]'(by omega),Hd (by omega),hc,h1,df4 hs hw hj<|by simp [ah]⟩
theorem bc4{d:DataW H}(E:P.underlying t=some (.slice e))(M:Value.okWide P w r b0 t v)(h:DataW.Trod enc P w base spare held t v d ps):Cell.okWide P w r b0 t v/\∃fuel,DataW.trod enc P w base spare held fuel t [v]=some (d,ps):=by
 obtain ⟨a,len,cap,rfl⟩:=okWide_slice E M
 simp only [Value.okWide,E] at M
 obtain ⟨fuel,hf⟩:=h
 exact ⟨M,fuel,by simpa [Value.cells] using hf⟩
theorem dv1{n:Nat}{y:DataW H×List MemPlace}(E:P.underlying t=some (.int .i64))(h:DataW.trod enc P w base spare held n t [u]=some y):∃q:Int,u=e7 q/\InR q:=by
 obtain ⟨q,hq,_,M⟩:=DataW.trod_int E h
 exact ⟨q,by simpa using hq,db5 M⟩
theorem du7{P:Program}{f:FuncId}{M:Func}{s:ChangeSpec}{c:OpenClaim}(h1:(c.wf (OpenSpec.ofChange s))=true)(h2:(laidOutB P)=true)(h3:(mapsRowed P)=true)(h4:(M.params.all (P.readableRec ·))=true)(h5:(namedTie P c.named s.vars)=true)(h6:((c.stops==[]))=true)(h7:((P.stops==[]))=true)(h8:((c.knobs==[]))=true)(h9:((P.stopKnobs==[]))=true)(ai:((c.inPlace==P.inPlace f))=true)(aw:((c.unfollowed==P.unfollowed f))=true)(aj:((c.recurses==P.recurses f))=true)(ad:((c.named==P.varsNamed f))=true)(ap:((c.maps==(M.params.toList++s.plain.varTypes P).any (P.mapsRec ·)))=true)(av:((c.ifaces==(M.params.toList++s.plain.varTypes P).any (P.ifacesRec ·)))=true)(az:((c.mapsOut==P.mapsAmong M.resultTypes.toList))=true)(ab:((c.loops==(M.params.toList++s.plain.varTypes P).any (P.loopsFrom ·)))=true)(aq:((c.wideKeys==(M.params.toList++s.plain.varTypes P++M.resultTypes.toList).any (P.wideKeysFrom ·)))=true)(ae:(s.vars.all (P.varReadable ·))=true)(ao:(M.resultTypes.all (λt=>P.readableRec t&&decide (t<P.types.size)))=true)(au:((c.ifacesOut==M.resultTypes.toList.any (P.ifacesRec ·)))=true)(a1:((c.loopsOut==M.resultTypes.toList.any (P.loopsFrom ·)))=true)(a3:((c.plainKeys==P.plainKeys))=true)(ah:(c.shortTexts.isNone)=true)(aa:(P.stopsHeard)=true)(an:(P.mayEnter)=true)(E:((c.lifted==P.liftsFinal))=true)(ax:((P.make==some c.make))=true)(a0:((c.kinds==(if c.domain.isEmpty then [] else M.params.toList.map λt=>match P.underlying t with |some (.int k)=>some k|_=>none)))=true)(ay:((c.pinned==c.pinnedBy))=true)(ak:((c.veiled==(M.params.toList++s.plain.varTypes P++M.resultTypes.toList).any (P.veiledRec ·)))=true)(ar:(c.veiledFits P M.params.toList (M.params.toList++s.plain.varTypes P++M.resultTypes.toList))=true):joinedFacts P f M s c=true:=by
 unfold joinedFacts
 exact (Gq.2 ⟨(Gq.2 ⟨(Gq.2 ⟨(Gq.2 ⟨(Gq.2 ⟨(Gq.2 ⟨(Gq.2 ⟨(Gq.2 ⟨(Gq.2 ⟨(Gq.2 ⟨(Gq.2 ⟨(Gq.2 ⟨(Gq.2 ⟨(Gq.2 ⟨(Gq.2 ⟨(Gq.2 ⟨(Gq.2 ⟨(Gq.2 ⟨(Gq.2 ⟨(Gq.2 ⟨(Gq.2 ⟨(Gq.2 ⟨(Gq.2 ⟨(Gq.2 ⟨(Gq.2 ⟨(Gq.2 ⟨(Gq.2 ⟨(Gq.2 ⟨(Gq.2 ⟨(Gq.2 ⟨(Gq.2 ⟨h1,h2⟩),h3⟩),h4⟩),h5⟩),h6⟩),h7⟩),h8⟩),h9⟩),ai⟩),aw⟩),aj⟩),ad⟩),ap⟩),av⟩),az⟩),ab⟩),aq⟩),ae⟩),ao⟩),au⟩),a1⟩),a3⟩),ah⟩),aa⟩),an⟩),E⟩),ax⟩),a0⟩),ay⟩),ak⟩),ar⟩)
theorem gj2{l:List Value}{a b c:Value}(h:l.length=3)(h0:l[0]? = some a)(E:l[1]? = some b)(M:l[2]? = some c):l=[a,b,c]:=by
 match l,h with
 |[x,y,z],_=>simp_all
theorem cp7{f:FuncId}{M:List Value}(h:er P ⟨w.os,w.tape,w.output,w.drawn⟩ f M [old w.heap.size w] λr J=>r = .bool true/\[old w.heap.size w]=J) :
  Calls P f M.toArray w λe w'=>e = .returned (.bool true)/\Below w.heap.size w w':=
 (h w<|Sep.begin w).mono λe w' ⟨v,J,he,⟨hv,E⟩,hs⟩=>by
  subst hv E
  exact ⟨he,hs.below C_⟩
end
end Go.Sl
namespace Go.Sl
open Go.ChangeShapes Go.WideShapes Go.ChangeAt Go.RowKit Go.Deep
variable{e:TypeId}{v:Value}{l:List Value}
section
variable {P:Program}{w:World}{r:Reach}{b0:Nat}{t:TypeId}{H:Type}{enc:TypeId×Value->H}{base:Nat}{held:Bool}
theorem ft6{α:Type}[Enc α]{xs:List α}{a:Addr}{cap:Nat}(hl:xs.length<=cap)(hm:cap<=maxLen)(hs:0<cap->a.spot=none)
  (h:∀(i:Nat) (hi:i<xs.length) (j:Nat),j<Enc.sz α->w.cell? (a.add<|i*Enc.sz α+j)=(Enc.enc xs[i])[j]?):SlW w (.slice (some a) xs.length cap) xs:=
 ⟨some a,cap,rfl,n3 _,hl,hm,λae=>⟨a.block,a.off,by rw [←an7 (hs ae)],λj u hj=>by
  have ab:=(He.1 hj).1
  rw [n3] at ab
  have aa:0<Enc.sz α:=Enc.pos
  have E:j / Enc.sz α<xs.length:=Nat.div_lt_of_lt_mul (by rw [Kh];exact ab)
  have ad:j % Enc.sz α<Enc.sz α:=Na _ aa
  have M:j / Enc.sz α*Enc.sz α+j % Enc.sz α=j:=by rw [Kh];exact Nat.div_add_mod j _
  have h1:=h _ E _ ad
  rw [←T5 xs _ _ E ad,M,hj,an7<|hs ae,y5] at h1
  exact h1⟩⟩
theorem fk3{fuel:Nat}{x:DataW H×List MemPlace}(ht:P.underlying t=some (.slice e))(he:P.underlying e=some (.int .i64))(hc:P.cellsOf e=1)
  (h:DataW.trod enc P w base (λ_=>true) held fuel t [v]=some x):∃(a:Option Addr) (c:Nat) (xs:List Int),v = .slice a xs.length c/\SlW w (.slice a xs.length c) xs:=by
 rcases open_ints ht he hc h with ⟨E,_⟩|⟨a,l,c,zs,E,_,hl,hm,hz,hx,M,ad⟩
 ·obtain rfl:v = .slice none 0 0:=by simpa using E
  exact ⟨none,0,[],rfl,⟨none,0,rfl,by simp [cells],Gk _,by simp,λh=>by omega⟩⟩
 obtain rfl:v = .slice (some a) l c:=by simpa using E
 rw [By rfl] at hz
 have aa:(zs.take l).length=l:=by rw [Fx];omega
 refine ⟨some a,c,zs.take l,by rw [aa],ft6 (by omega) hm (λh0=>?_) λi hi j hj=>?_⟩
 ·have:=World.cell?_spot (M 0<|by omega)
  cases a;simpa [Addr.add] using this
 have ab:j=0:=by have:j<1:=hj;omega
 subst ab
 have e1:i*Enc.sz Int+0=i:=by show i*1+0=i;omega
 rw [e1,M i<|by omega,Lt,Gs,Hd (by omega)]
 rfl
theorem cx3{α:Type}[Enc α][Inhabited α](Q:α->Prop){fuel:Nat}{x:DataW H×List MemPlace}(ht:P.underlying t=some (.slice e))(hC:P.cellsOf e=Enc.sz α)
  (an:∀(cs:List Value) (n:Nat) (D:DataW H×List MemPlace),DataW.trod enc P w base (λ_=>true) held n e cs=some D->∃y:α,cs=Enc.enc y/\Q y)
  (h:DataW.trod enc P w base (λ_=>true) held fuel t [v]=some x):∃(a:Option Addr) (c:Nat) (xs:List α),v = .slice a xs.length c/\SlW w (.slice a xs.length c) xs/\∀y∈xs,Q y:=by
 rcases open_slice ht h with ⟨ab,_⟩|⟨a,len,cap,m,n,D,Pl,ab,hb,hl,hm,ae,hx,hi⟩
 ·obtain rfl:v = .slice none 0 0:=by simpa using ab
  exact ⟨none,0,[],rfl,⟨none,0,rfl,by simp [cells],Gk _,by simp,λh=>by omega⟩,by simp⟩
 obtain rfl:v = .slice (some a) len cap:=by simpa using ab
 rw [By rfl] at ae
 subst ae
 have ad:∀i,i<m->∃y:α,Q y/\∀j,j<Enc.sz α->w.cell? (a.add<|i*Enc.sz α+j)=(Enc.enc y)[j]? :=λi M=>by
  obtain ⟨cs',ah,aj⟩:=hi i M
  rw [hC] at ah
  obtain ⟨y,rfl,hq⟩:=an _ _ _ aj
  obtain ⟨_,_,ak⟩:=World.cells?_some ah
  exact ⟨y,hq,λj hj=>by rw [←ak j hj,Go.Deep.add_add]⟩
 have ai:∃f:Nat->α,∀i,i<m->Q (f i)/\∀j,j<Enc.sz α->w.cell? (a.add<|i*Enc.sz α+j)=(Enc.enc<|f i)[j]? :=
  ⟨λi=>if M:i<m then Classical.choose (ad i M) else default,λi M=>by simp only [dif_pos M];exact Classical.choose_spec<|ad i M⟩
 obtain ⟨f,hf⟩:=ai
 have aa:((List.range len).map f).length=len:=by simp
 have E:0<Enc.sz α:=Enc.pos
 refine ⟨some a,m,(List.range len).map f,by rw [aa],ft6 (by rw [aa];exact hl) hm (λh0=>?_) λi M j hj=>?_,λy hy=>?_⟩
 ·have h1:=(hf 0 h0).2 0 E
  have h2:0<(Enc.enc<|f 0).length:=by rw [Enc.len];exact E
  rw [Hd h2] at h1
  have:=World.cell?_spot h1
  cases a;simpa [Addr.add] using this
 ·rw [aa] at M
  rw [(hf i<|by omega).2 j hj]
  simp
 obtain ⟨i,M,rfl⟩:=Ha.1 hy
 exact (hf i<|by have:=Ht.1 M;omega).1
structure gd4 (P:Program) (fs:Array Field) (j off:Nat):Prop where
 is:∃f,fs[j]? = some f/\f.offset=off/\P.cellsOf f.type=1/\P.underlying f.type=some (.int .i64)
structure gp2 (P:Program) (fs:Array Field) (j off:Nat):Prop where
 is:∃f,fs[j]? = some f/\f.offset=off/\P.cellsOf f.type=1/\P.underlying f.type=some .bool
structure go8 (P:Program) (fs:Array Field) (j off:Nat):Prop where
 is:∃f e,fs[j]? = some f/\f.offset=off/\P.cellsOf f.type=1/\P.underlying f.type=some (.slice e)/\P.underlying e=some (.int .i64)/\P.cellsOf e=1
structure gn9 (P:Program) (fs:Array Field) (j off:Nat):Prop where
 is:∃f gs,fs[j]? = some f/\f.offset=off/\P.cellsOf f.type=2/\P.underlying f.type=some (.struct gs)/\gs.size=2/\gd4 P gs 0 0/\gd4 P gs 1 1
section
variable {fs:Array Field}{cs:List Value}{fuel:Nat}{x:DataW H×List MemPlace}{j off:Nat}
theorem dr2{cs:List Value}{off:Nat}{u:Value}(h:(cs.drop off).take 1=l)(E:l=[u]):cs[off]? = some u:=by
 subst E
 have M:((cs.drop off).take 1)[0]? = some u:=by rw [h];rfl
 rw [List.getElem?_take_of_lt (by omega),Jg] at M
 simpa using M
theorem ba4(hs:P.underlying t=some (.struct fs))(h:DataW.trod enc P w base (λ_=>true) held fuel t cs=some x){f:Field}(hj:fs[j]? = some f) :
  cs.length=P.cellsOf t/\∃n y,DataW.trod enc P w base (λ_=>true) held n f.type ((cs.drop f.offset).take (P.cellsOf f.type))=some y:=by
 obtain ⟨xs,n,_,_,hl,aa,E⟩:=DataW.trod_struct hs h
 have M:=E j f hj
 have hlt:j<fs.size:=(Jy.1 hj).1
 rw [Hd (show j<xs.length by omega)] at M
 exact ⟨hl,n,_,M⟩
theorem be4(hs:P.underlying t=some (.struct fs))(hf:gd4 P fs j off)(h:DataW.trod enc P w base (λ_=>true) held fuel t cs=some x):∃q:Int,cs[off]? = some (e7 q)/\InR q:=by
 obtain ⟨f,hj,ho,hc,hu⟩:=hf.is
 obtain ⟨_,n,y,E⟩:=ba4 hs h hj
 rw [ho,hc] at E
 obtain ⟨q,hq,_,M⟩:=DataW.trod_int hu E
 exact ⟨q,dr2 rfl hq,db5 M⟩
theorem fx2(hs:P.underlying t=some (.struct fs))(E:gp2 P fs j off)(h:DataW.trod enc P w base (λ_=>true) held fuel t cs=some x):∃q:Bool,cs[off]? = some (.bool q):=by
 obtain ⟨f,hj,ho,hc,hu⟩:=E.is
 obtain ⟨_,n,y,M⟩:=ba4 hs h hj
 rw [ho,hc] at M
 obtain ⟨q,hq,_⟩:=DataW.trod_bool hu M
 exact ⟨q,dr2 rfl hq⟩
theorem fx1(hs:P.underlying t=some (.struct fs))(hf:go8 P fs j off)(h:DataW.trod enc P w base (λ_=>true) held fuel t cs=some x):∃(a:Option Addr) (c:Nat) (xs:List Int),cs[off]? = some (.slice a xs.length c)/\SlW w (.slice a xs.length c) xs:=by
 obtain ⟨f,e,hj,ho,hc,hu,he,M⟩:=hf.is
 obtain ⟨hl,n,y,E⟩:=ba4 hs h hj
 rw [ho,hc] at E
 cases hcs:(cs.drop off).take 1 with
 |nil=>
  rw [hcs] at E
  rcases open_ints hu he M E with ⟨h2,_⟩|⟨_,_,_,_,h2,_⟩<;>cases h2
 |cons v vs=>
  have aa:vs=[]:=by
   have h3:((cs.drop off).take 1).length<=1:=by rw [Fx];omega
   rw [hcs,Fu] at h3
   exact Kr.1<|by omega
  subst aa
  rw [hcs] at E
  obtain ⟨a,c,xs,rfl,h2⟩:=fk3 hu he M E
  exact ⟨a,c,xs,dr2 hcs rfl,h2⟩
theorem fx0(hs:P.underlying t=some (.struct fs))(hf:gn9 P fs j off)(h:DataW.trod enc P w base (λ_=>true) held fuel t cs=some x):∃p q:Int,(cs[off]? = some (e7 p)/\InR p)/\cs[off+1]? = some (e7 q)/\InR q:=by
 obtain ⟨f,gs,hj,ho,hc,hu,aa,M,E⟩:=hf.is
 obtain ⟨hl,n,y,h1⟩:=ba4 hs h hj
 rw [ho,hc] at h1
 obtain ⟨p,hp,ip⟩:=be4 hu M h1
 obtain ⟨q,hq,iq⟩:=be4 hu E h1
 rw [List.getElem?_take_of_lt (by omega),Jg] at hp hq
 exact ⟨p,q,⟨by simpa using hp,ip⟩,hq,iq⟩
theorem ft5(hs:P.underlying t=some (.struct fs))(h:DataW.trod enc P w base (λ_=>true) held fuel t cs=some x):cs.length=P.cellsOf t:=by
 obtain ⟨_,_,_,_,M,_⟩:=DataW.trod_struct hs h
 exact M
theorem gs2{a b c d e f:Value}(h:l.length=6)(E:l[0]? = some a)(h1:l[1]? = some b)(M:l[2]? = some c)(h3:l[3]? = some d)(h4:l[4]? = some e)(h5:l[5]? = some f):l=[a,b,c,d,e,f]:=by
 match l,h with
 |[x,y,z,u,v,w],_=>simp_all
end
end
end Go.Sl
