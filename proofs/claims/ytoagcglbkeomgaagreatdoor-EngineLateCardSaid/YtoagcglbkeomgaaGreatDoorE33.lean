/- A part of the proofs of statements of this seat: contracts of functions, and the plain laws that they lean on. No conditions. -/
import Derived.Test.YtoagcglbkeomgaaGreatDoorE32
import Derived.ProofKit
import Derived.OpenShut
import Derived.ChangeOld
import Derived.Below
import Derived.SizedLaws
import Derived.JoinedOf
import Derived.Deep.Slices
import Derived.Deep.Fields
set_option linter.unusedVariables false
set_option linter.unusedSimpArgs false
set_option linter.unusedSectionVars false
open Go.Proofs.Tryz (prog)
namespace Go.Sl
open Go.Proofs
set_option maxRecDepth 4000
attribute [local irreducible] W G V D A j7 Eff
theorem J1.up{n m:Int}{e:Ev}(h:J1 n e)(M:n<=m):J1 m e:=⟨h.kind,h.tm,h.ends,h.right,by have:=h.fits;omega,h.zero⟩
theorem dy2(kd wd mo:Int)(k:EnS):(k.flush kd wd mo).b.mr=k.b.lt/\(k.flush kd wd mo).b.ws=[]:=⟨rfl,rfl⟩
set_option maxHeartbeats 8000000 in
theorem bh4{κ:Ctx}{I:List Item}{la:Option Addr}{ln lc:Nat}{ls:List Int}(hl:Sl κ I (.slice la ln lc) ls)(m0:Int)(bn:0<=m0/\m0<256)(hT:F4 κ I 0 p5):eu prog κ 6 [.slice la ln lc,.int .u8 m0] I (λr J=>r = .bool true/\I=J):=by
 have bq:0<=Int.tmod m0 40/\Int.tmod m0 40<40:=by rw [Mr bn.1];omega
 refine Ce2 Tryz.func6 C C<|Z ?_
 refine Gc0 (Ac c_ C C gb3)<|Z ?_
 refine Al C (λbo=>?_)<|λbo=>Z ?_
 ·refine Am (G.e (Ac c_ C C<|ax4<|A6 hT Ah) ?_)
  rintro _ _ ⟨_,_,⟨rfl,rfl⟩,rfl,rfl⟩
  refine Z ?_
  exact Ak C C I (by first|exact Ah|exact X6) ⟨rfl,rfl⟩
 refine G.e (Ac c_ C C ga8) ?_
 rintro _ _ ⟨_,_,⟨an,rfl,rfl⟩,rfl,rfl⟩
 show G prog κ _ _ _ _ ([(24,pt an),(23,.slice la ln lc),(21,.bool<|decide<|¬((ln:Int)<=500)),(20,.bool<|decide<|(ln:Int)<=500),(19,.slice la ln lc),(4,.bool false),(0,.slice la ln lc),(1,.int .u8 m0)]:Env) (e8 an [.slice la ln lc,e7 0] 85::I)
 have bu:(0:Int)<=0:=Hn _
 refine Z ?_
 refine G.e (Ac c_ C C<|dp9 ta1 (λ_=>Bd hl Ah) om) ?_
 rintro _ _ ⟨_,_,⟨⟨M,ae,ab,ad,ai,k7,v8,Y9,a5⟩,⟨⟨rfl,hM⟩,a6⟩,rfl⟩,rfl,rfl⟩
 refine Ds (J:=e8 an [.slice la ln lc,e7 a5] 85::(Y9++I)) (Cj<|C0 (A:=Y9) (L:=[e8 an [.slice la ln lc,e7 a5] 85]) (T:=I)) ?_
 show G prog κ _ _ _ _ ([(26,.agg (kx ae ab ad ai M k7 v8).toArray),(25,pt an),(5,pt an),(24,pt an),(23,.slice la ln lc),(21,.bool<|decide<|¬((ln:Int)<=500)),(20,.bool<|decide<|(ln:Int)<=500),(19,.slice la ln lc),(4,.bool false),(0,.slice la ln lc),(1,.int .u8 m0)]:Env) (e8 an [.slice la ln lc,e7 a5] 85::(Y9++I))
 have a6:0<=a5:=a6
 have hM:bu0 κ M ae ab ad ai k7 v8 Y9:=hM
 refine Ge1 (Aj H3 C) λao=>Ge0 (Eff.sq H3)<|Z ?_
 refine Gr (j7.rem C C om)<|Gr (j7.dm1 Ek Cb C<|by unfold InR;omega)<|G.e (Ac c_ C C<|bn7 ta1 (λ_=>Bd hl Ah) om  om om) ?_
 rintro _ _ ⟨_,_,⟨⟨ah,aq⟩,⟨⟨rfl,ax,a3⟩,a7⟩,rfl⟩,rfl,rfl⟩
 show G prog κ _ _ _ _ ([(31,.agg (ez ah).toArray),(30,e7<|Int.tmod m0 40),(29,.int .u8<|Int.tmod m0 40),(28,.int .u8 m0),(27,pt an),(6,pt ao),(26,.agg (kx ae ab ad ai M k7 v8).toArray),(25,pt an),(5,pt an),(24,pt an),(23,.slice la ln lc),(21,.bool<|decide<|¬((ln:Int)<=500)),(20,.bool<|decide<|(ln:Int)<=500),(19,.slice la ln lc),(4,.bool false),(0,.slice la ln lc),(1,.int .u8 m0)]:Env) (e8 ao (kx ae ab ad ai M k7 v8) 47::e8 an [.slice la ln lc,e7 aq] 85::(Y9++I))
 have a7:0<=aq:=a7
 dsimp only at ax
 dsimp only at a3
 have hx:=ax.up (m:=M) (by have:=hM.rn;omega)
 have bw:=hM.tm
 have bt:=hM.wl
 have b5:=hM.ok.buf.mr
 refine Ge1 (Aj z6 C) λap=>Ge0 (Fk z6) ?_
 refine Ar<|A0 (S2 7 6)<|Fe (σ:=Int×(List Item)) (λs=>([(6,pt ao),(7,pt ap),(10,e7<|s.1)]:Env)) (λs=>e8 ap (ez ah) 54::e8 ao (kx ae ab ad ai M k7 v8) 47::e8 an [.slice la ln lc,e7 aq] 85::(s.2++(Y9++I))) (λs=>(s.1=if ah.tm<=k7.b.mr then 10 else 0)) ?_ ?_
 ·refine Z ?_
  refine G.e (Ac c_ C C<|bu1 (T:=(Y9++I)) (k:=k7) (v:=v8) ta2 (KpF.fit hM.f<|C1<|by repeat (first|exact Hm _ _|apply List.sublist_append_of_sublist_right)) hM.ok (by first|omega|(show (0:Nat)<=_;omega)) hx<|A6 hT Ah) ?_
  rintro _ _ ⟨_,_,(⟨a1,rfl,rfl⟩|⟨a1,aj,Y16,bh,a9,rfl,bi,bp,rfl⟩),rfl,rfl⟩
  ·show G prog κ _ _ _ _ ([(35,.tuple #[.agg zk.toArray,.slice none 0 0,e7 10]),(34,.agg (ez ah).toArray),(33,.agg (kx ae ab ad ai M k7 v8).toArray),(7,pt ap),(6,pt ao)]:Env) (e8 ap (ez ah) 54::e8 ao (kx ae ab ad ai M k7 v8) 47::e8 an [.slice la ln lc,e7 aq] 85::(Y9++I))
   refine Z ?_
   refine Ge1 (Aj H3 C) λb3=>Ge0 (Eff.sq H3)<|Z ?_
   exact Di ((10),(([]:List Item)))<|by dsimp only;exact (B_ om).symm
  refine Ds (J:=e8 ap (ez ah) 54::e8 ao (kx ae ab ad ai M k7 v8) 47::e8 an [.slice la ln lc,e7 aq] 85::(Y16++(Y9++I))) (Cj<|C0 (A:=Y16) (L:=[e8 ap (ez ah) 54,e8 ao (kx ae ab ad ai M k7 v8) 47,e8 an [.slice la ln lc,e7 aq] 85]) (T:=(Y9++I))) ?_
  show G prog κ _ _ _ _ ([(35,.tuple #[.agg (kx ae ab ad ai M ((k7.feed ae ab ad ai ah)) aj).toArray,.slice bh ((k7.cn3 ae ab ad ai ah)).length a9,e7 0]),(34,.agg (ez ah).toArray),(33,.agg (kx ae ab ad ai M k7 v8).toArray),(7,pt ap),(6,pt ao)]:Env) (e8 ap (ez ah) 54::e8 ao (kx ae ab ad ai M k7 v8) 47::e8 an [.slice la ln lc,e7 aq] 85::(Y16++(Y9++I)))
  refine Z ?_
  refine Ge1 (Aj H3 C) λbv=>Ge0 (Eff.sq H3)<|Z ?_
  exact Di ((0),(Y16))<|by dsimp only;exact (An om).symm
 rintro ⟨fe,Z1⟩ hp
 have bg:(fe=if ah.tm<=k7.b.mr then 10 else 0):=hp
 show W prog κ 99 _ _ ([(6,pt ao),(7,pt ap),(10,e7 fe)]:Env) (e8 ap (ez ah) 54::e8 ao (kx ae ab ad ai M k7 v8) 47::e8 an [.slice la ln lc,e7 aq] 85::(Z1++(Y9++I)))
 refine Z ?_
 refine G.e (Ac c_ C C<|cq9 (T:=(Z1++(Y9++I))) (k:=k7) (v:=v8) ta2 (KpF.fit hM.f<|C1<|by repeat (first|exact Hm _ _|apply List.sublist_append_of_sublist_right)) hM.ok (by first|omega|(show (0:Nat)<=_;omega))<|A6 hT Ah) ?_
 rintro _ _ ⟨_,_,⟨aa,Y22,au,ar,rfl,aw,bj,rfl⟩,rfl,rfl⟩
 refine Ds (J:=e8 ap (ez ah) 54::e8 ao (kx ae ab ad ai M k7 v8) 47::e8 an [.slice la ln lc,e7 aq] 85::(Y22++(Z1++(Y9++I)))) (Cj<|C0 (A:=Y22) (L:=[e8 ap (ez ah) 54,e8 ao (kx ae ab ad ai M k7 v8) 47,e8 an [.slice la ln lc,e7 aq] 85]) (T:=(Z1++(Y9++I)))) ?_
 show G prog κ _ _ _ _ ([(41,.tuple #[.agg (kx ae ab ad ai M ((k7.flush ae ab ad)) aa).toArray,.slice au ((k7.da1 ae ab ad)).length ar,e7 0]),(40,.agg (kx ae ab ad ai M k7 v8).toArray),(6,pt ao),(7,pt ap),(10,e7 fe)]:Env) (e8 ap (ez ah) 54::e8 ao (kx ae ab ad ai M k7 v8) 47::e8 an [.slice la ln lc,e7 aq] 85::(Y22++(Z1++(Y9++I))))
 refine Z ?_
 have br:=dy2 ae ab ad k7
 refine Z ?_
 refine Ge1 (Aj H3 C) λav=>Ge0 (Eff.sq H3) ?_
 refine Ga C<|Ga C<|Ar<|Fe (σ:=Int×(List Item)) (λs=>([(6,pt ao),(7,pt ap),(10,e7 fe),(11,pt av),(13,e7 0),(16,e7<|s.1)]:Env)) (λs=>e8 av (kx ae ab ad ai M ((k7.flush ae ab ad)) aa) 47::e8 ap (ez ah) 54::e8 ao (kx ae ab ad ai M k7 v8) 47::e8 an [.slice la ln lc,e7 aq] 85::(s.2++(Y22++(Z1++(Y9++I))))) (λs=>(s.1=if ah.tm<=k7.b.lt then 10 else 0)) ?_ ?_
 ·refine Z ?_
  refine G.e (Ac c_ C C<|bu1 (T:=(Y22++(Z1++(Y9++I)))) (k:=(k7.flush ae ab ad)) (v:=aa) ta2 aw hM.ok.flush (by first|omega|(show (0:Nat)<=_;omega)) hx<|A6 hT Ah) ?_
  rintro _ _ ⟨_,_,(⟨a4,rfl,rfl⟩|⟨a4,ak,Y27,bb,bf,rfl,bm,bk,rfl⟩),rfl,rfl⟩
  ·show G prog κ _ _ _ _ ([(48,.tuple #[.agg zk.toArray,.slice none 0 0,e7 10]),(47,.agg (ez ah).toArray),(46,.agg (kx ae ab ad ai M ((k7.flush ae ab ad)) aa).toArray),(13,e7 0),(12,.slice au ((k7.da1 ae ab ad)).length ar),(11,pt av),(44,e7 0),(43,.slice au ((k7.da1 ae ab ad)).length ar),(42,.agg (kx ae ab ad ai M ((k7.flush ae ab ad)) aa).toArray),(39,.tuple #[.agg (kx ae ab ad ai M ((k7.flush ae ab ad)) aa).toArray,.slice au ((k7.da1 ae ab ad)).length ar,e7 0]),(41,.tuple #[.agg (kx ae ab ad ai M ((k7.flush ae ab ad)) aa).toArray,.slice au ((k7.da1 ae ab ad)).length ar,e7 0]),(40,.agg (kx ae ab ad ai M k7 v8).toArray),(6,pt ao),(7,pt ap),(10,e7 fe)]:Env) (e8 av (kx ae ab ad ai M ((k7.flush ae ab ad)) aa) 47::e8 ap (ez ah) 54::e8 ao (kx ae ab ad ai M k7 v8) 47::e8 an [.slice la ln lc,e7 aq] 85::(Y22++(Z1++(Y9++I))))
   refine Z ?_
   refine Ge1 (Aj H3 C) λb2=>Ge0 (Eff.sq H3)<|Z ?_
   exact Di ((10),(([]:List Item)))<|by dsimp only;exact (B_ om).symm
  refine Ds (J:=e8 av (kx ae ab ad ai M ((k7.flush ae ab ad)) aa) 47::e8 ap (ez ah) 54::e8 ao (kx ae ab ad ai M k7 v8) 47::e8 an [.slice la ln lc,e7 aq] 85::(Y27++(Y22++(Z1++(Y9++I))))) (Cj<|C0 (A:=Y27) (L:=[e8 av (kx ae ab ad ai M ((k7.flush ae ab ad)) aa) 47,e8 ap (ez ah) 54,e8 ao (kx ae ab ad ai M k7 v8) 47,e8 an [.slice la ln lc,e7 aq] 85]) (T:=(Y22++(Z1++(Y9++I))))) ?_
  show G prog κ _ _ _ _ ([(48,.tuple #[.agg (kx ae ab ad ai M (((k7.flush ae ab ad).feed ae ab ad ai ah)) ak).toArray,.slice bb (((k7.flush ae ab ad).cn3 ae ab ad ai ah)).length bf,e7 0]),(47,.agg (ez ah).toArray),(46,.agg (kx ae ab ad ai M ((k7.flush ae ab ad)) aa).toArray),(13,e7 0),(12,.slice au ((k7.da1 ae ab ad)).length ar),(11,pt av),(44,e7 0),(43,.slice au ((k7.da1 ae ab ad)).length ar),(42,.agg (kx ae ab ad ai M ((k7.flush ae ab ad)) aa).toArray),(39,.tuple #[.agg (kx ae ab ad ai M ((k7.flush ae ab ad)) aa).toArray,.slice au ((k7.da1 ae ab ad)).length ar,e7 0]),(41,.tuple #[.agg (kx ae ab ad ai M ((k7.flush ae ab ad)) aa).toArray,.slice au ((k7.da1 ae ab ad)).length ar,e7 0]),(40,.agg (kx ae ab ad ai M k7 v8).toArray),(6,pt ao),(7,pt ap),(10,e7 fe)]:Env) (e8 av (kx ae ab ad ai M ((k7.flush ae ab ad)) aa) 47::e8 ap (ez ah) 54::e8 ao (kx ae ab ad ai M k7 v8) 47::e8 an [.slice la ln lc,e7 aq] 85::(Y27++(Y22++(Z1++(Y9++I)))))
  refine Z ?_
  refine Ge1 (Aj H3 C) λb4=>Ge0 (Eff.sq H3)<|Z ?_
  exact Di ((0),(Y27))<|by dsimp only;exact (An om).symm
 rintro ⟨ge,Z2⟩ hp
 have be:(ge=if ah.tm<=k7.b.lt then 10 else 0):=hp
 show W prog κ 99 _ _ ([(6,pt ao),(7,pt ap),(10,e7 fe),(11,pt av),(13,e7 0),(16,e7 ge)]:Env) (e8 av (kx ae ab ad ai M ((k7.flush ae ab ad)) aa) 47::e8 ap (ez ah) 54::e8 ao (kx ae ab ad ai M k7 v8) 47::e8 an [.slice la ln lc,e7 aq] 85::(Z2++(Y22++(Z1++(Y9++I)))))
 refine Z ?_
 refine Gr (j7.gg4 El C C)<|Gm C<|A1 (d:=68) C (λa8=>Z ?_)<|λa8=>?_
 ·refine A1 (d:=70) C (λba=>Z ?_) (λba=>Z ?_)
  ·refine A1 (d:=79) C (λay=>Z ?_) (λay=>?_)
   ·refine e9 (j7.gg4 El C C) (Z ?_)
    refine A1 (d:=85) C (λaz=>Z ?_)<|λaz=>?_
    ·refine A1 (d:=92) C (λa0=>Z ?_) (λa0=>?_)
     ·refine Dj (Cf C C C) (Ac c_ C C<|ak0 (k:=(k7.flush ae ab ad)) (v:=aa) (KpF.fit aw<|B3 (κ:=κ)<|by repeat (first|exact Bh _|apply Bg|apply Bo)) hM.ok.flush.v (by show (0:Nat)<=_;omega)<|A6 hT Ah) ?_
      rintro _ _ ⟨_,_,⟨rfl,rfl⟩,rfl,rfl⟩
      refine Z ?_
      refine Dj (Cf C C C) (Ac c_ C C<|ax4<|A6 hT Ah) ?_
      rintro _ _ ⟨_,_,⟨rfl,rfl⟩,rfl,rfl⟩
      refine Z ?_
      exact Ak C C I (by first|exact Ah|exact X6) ⟨rfl,rfl⟩
     exact absurd rfl a0
    exact absurd (Ft.2<|by rw [be];split<;>omega) az
   exact absurd rfl ay
  refine A1 (d:=75) C (λbc=>Z ?_)<|λbc=>?_
  ·refine A1 (d:=79) C (λay=>Z ?_) (λay=>?_)
   ·refine e9 (j7.gg4 El C C) (Z ?_)
    refine A1 (d:=85) C (λaz=>Z ?_)<|λaz=>?_
    ·refine A1 (d:=92) C (λa0=>Z ?_) (λa0=>?_)
     ·refine Dj (Cf C C C) (Ac c_ C C<|ak0 (k:=(k7.flush ae ab ad)) (v:=aa) (KpF.fit aw<|B3 (κ:=κ)<|by repeat (first|exact Bh _|apply Bg|apply Bo)) hM.ok.flush.v (by show (0:Nat)<=_;omega)<|A6 hT Ah) ?_
      rintro _ _ ⟨_,_,⟨rfl,rfl⟩,rfl,rfl⟩
      refine Z ?_
      refine Dj (Cf C C C) (Ac c_ C C<|ax4<|A6 hT Ah) ?_
      rintro _ _ ⟨_,_,⟨rfl,rfl⟩,rfl,rfl⟩
      refine Z ?_
      exact Ak C C I (by first|exact Ah|exact X6) ⟨rfl,rfl⟩
     exact absurd rfl a0
    exact absurd (Ft.2<|by rw [be];split<;>omega) az
   exact absurd rfl ay
  exact absurd (by rw [bg,An ba]) bc
 exact absurd (Ft.2<|by rw [bg];split<;>omega) a8
end Go.Sl
namespace Go.Sl
open Go.ChangeShapes Go.WideShapes Go.ChangeAt Go.RowKit Go.Deep
variable{v:Value}{e:TypeId}{a:Addr}
section
variable {κ:Ctx}{w w':World}{I:List Item}
theorem ck8(hs:Sep κ w' I)(hm:old w.heap.size w∈I){b o:Nat}{u:Value}(hc:w.cell? ⟨b,o,none⟩=some u):w'.cell? ⟨b,o,none⟩=some u:=by
 have M:∀k,k<w.heap.size->w'.heap[k]? = w.heap[k]? :=(hs.ok _ hm).1
 have hb:b<w.heap.size:=by
  refine Nat.not_le.1 λh=>?_
  simp [World.cell?,Array.getElem?_eq_none h] at hc
 have:=M b hb
 simp only [World.cell?,this] at hc ⊢
 exact hc
def SlW{α:Type}[Enc α](w:World)(v:Value)(xs:List α):Prop:=da4 w (Enc.sz α) v xs.length (cells xs)
theorem SlW.sl{α:Type}[Enc α]{xs:List α}(h:SlW w v xs)(M:old w.heap.size w∈I):Sl κ I v xs:=λw' hs=>by
 obtain ⟨a,cap,hv,h1,h2,h3,h4⟩:=h
 refine ⟨a,cap,hv,h1,h2,h3,λhc=>?_⟩
 obtain ⟨b,off,ha,hr⟩:=h4 hc
 exact ⟨b,off,ha,λj u hj=>ck8 hs M<|hr j u hj⟩
end
section
variable {P:Program}{w:World}{r:Reach}{b0:Nat}{t:TypeId}{H:Type}{enc:TypeId×Value->H}{base:Nat}{spare:Nat->Bool}{held:Bool}
theorem dc4{len cap:Nat}(M:P.underlying t=some (.slice e))(h:Cell.okWide P w r b0 t (.slice (some a) len cap)):a.spot=none:=by
 simp only [Cell.okWide,Cell.ok,M] at h
 exact h.2.2.2.1
theorem gb1{n:Int}(h:(Lit.int .i64 n).wf=true):InR n:=by
 simp only [Lit.wf,He,Gp] at h
 exact h
def fr7(P:Program)(t:TypeId)(d:DataW H):Prop:=∀n∈d.weights P t,n<=reachBytes
theorem dg9{M:List TypeId}{ds:List (DataW H)}(h:(DataW.weightsEach P M ds).all (· <= reachBytes)=true){j:Nat}{d:DataW H}(ht:M[j]? = some t)(hd:ds[j]? = some d):fr7 P t d:=λn hn=>by
 have:=List.all_eq_true.1 h _ (DataW.weights_mem_each ht hd n hn)
 simpa using this
theorem ce2{es sp:List (DataW H)}(M:P.underlying t=some (.slice e))(h:fr7 P t (.slice es sp)):es.length*P.bytesOf e<=140737488351232:=by
 have h1:=h ((es.length+sp.length)*P.bytesOf e) (by simp [DataW.weights,M])
 have h2:es.length*P.bytesOf e<=(es.length+sp.length)*P.bytesOf e:=Hk _ (by omega)
 simp only [reachBytes] at h1
 omega
theorem cp8(h:a.spot=none):a=⟨a.block,a.off,none⟩:=by cases a;simp_all
theorem fn5{fuel:Nat}{x:DataW H×List MemPlace}(ht:P.underlying t=some (.slice e))(he:P.underlying e=some (.int .i64))(hc:P.cellsOf e=1)
  (hv:Cell.okWide P w r b0 t v) (h:DataW.trod enc P w base spare held fuel t [v]=some x) (hw:fr7 P t x.1):∃(a:Option Addr) (c:Nat) (xs:List Int),v = .slice a xs.length c/\SlW w (.slice a xs.length c) xs/\(∀n∈xs,InR n)/\xs.length*P.bytesOf e<=140737488351232:=by
 rcases open_ints ht he hc h with ⟨ab,_⟩|⟨a,l,c,zs,ab,_,hl,hm,hz,hx,aa,ae⟩
 ·obtain rfl:v = .slice none 0 0:=by simpa using ab
  exact ⟨none,0,[],rfl,⟨none,0,rfl,by simp [cells],Gg _,by simp,λh=>by omega⟩,by simp,by simp⟩
 obtain rfl:v = .slice (some a) l c:=by simpa using ab
 have ad:=dc4 ht hv
 have ah:l<=zs.length:=by rw [hz];split<;>omega
 have M:(zs.take l).length=l:=by rw [Fr];omega
 refine ⟨some a,c,zs.take l,by rw [M],⟨some a,c,rfl,r8 _,by rw [M];exact hl,hm,λai=>⟨a.block,a.off,by rw [←cp8 ad],λj u hj=>?_⟩⟩,λn hn=>gb1 (ae n (Hx hn)),by
  rw [hx] at hw
  have:=ce2 ht hw
  simpa [lits] using this⟩
 have aj:j<l:=by
  have:=(G_.1 hj).1
  rw [r8,M] at this
  have e1:Enc.sz Int=1:=rfl
  rw [e1] at this;omega
 have h1:=V9 (zs.take l) j 0 (by omega) (by decide)
 have e1:j*Enc.sz Int+0=j:=by show j*1+0=j;omega
 rw [e1] at h1
 rw [h1] at hj
 have h2:=aa j (by omega)
 rw [cp8 ad,G9] at h2
 have h3:u=e7 (zs.getD j 0):=by
  have h4:some (e7<|(zs.take l)[j]'(by omega))=some u:=hj
  simp only [Jt] at h4
  rw [←h4]
  simp [Hs,Jb (show j<zs.length by omega)]
 rw [h3];exact h2
theorem fb5{d:DataW H}{ps:List MemPlace}(M:P.underlying t=some (.slice e))(hv:Value.okWide P w r b0 t v)(h:DataW.Trod enc P w base spare held t v d ps):Cell.okWide P w r b0 t v/\∃fuel,DataW.trod enc P w base spare held fuel t [v]=some (d,ps):=by
 obtain ⟨a,len,cap,rfl⟩:=okWide_slice M hv
 simp only [Value.okWide,M] at hv
 obtain ⟨fuel,hf⟩:=h
 exact ⟨hv,fuel,by simpa [Value.cells] using hf⟩
theorem dh7{P:Program}{f:FuncId}{M:Func}{s:ChangeSpec}{c:OpenClaim}(h1:(c.wf (OpenSpec.ofChange s))=true)(h2:(laidOutB P)=true)(h3:(mapsRowed P)=true)(h4:(M.params.all (P.readableRec ·))=true)(h5:(namedTie P c.named s.vars)=true)(h6:((c.stops==[]))=true)(h7:((P.stops==[]))=true)(h8:((c.knobs==[]))=true)(h9:((P.stopKnobs==[]))=true)(ab:((c.inPlace==P.inPlace f))=true)(aa:((c.unfollowed==P.unfollowed f))=true)(ax:((c.recurses==P.recurses f))=true)(av:((c.named==P.varsNamed f))=true)(aj:((c.maps==(M.params.toList++s.plain.varTypes P).any (P.mapsRec ·)))=true)(au:((c.ifaces==(M.params.toList++s.plain.varTypes P).any (P.ifacesRec ·)))=true)(aq:((c.mapsOut==P.mapsAmong M.resultTypes.toList))=true)(ao:((c.loops==(M.params.toList++s.plain.varTypes P).any (P.loopsFrom ·)))=true)(ap:((c.wideKeys==(M.params.toList++s.plain.varTypes P++M.resultTypes.toList).any (P.wideKeysFrom ·)))=true)(az:(s.vars.all (P.varReadable ·))=true)(a3:(M.resultTypes.all (λt=>P.readableRec t&&decide (t<P.types.size)))=true)(ar:((c.ifacesOut==M.resultTypes.toList.any (P.ifacesRec ·)))=true)(a0:((c.loopsOut==M.resultTypes.toList.any (P.loopsFrom ·)))=true)(a4:((c.plainKeys==P.plainKeys))=true)(ay:(c.shortTexts.isNone)=true)(ae:(P.stopsHeard)=true)(ak:(P.mayEnter)=true)(ad:((c.lifted==P.liftsFinal))=true)(ah:((P.make==some c.make))=true)(aw:((c.kinds==(if c.domain.isEmpty then [] else M.params.toList.map λt=>match P.underlying t with |some (.int k)=>some k|_=>none)))=true)(an:((c.pinned==c.pinnedBy))=true)(ai:((c.veiled==(M.params.toList++s.plain.varTypes P++M.resultTypes.toList).any (P.veiledRec ·)))=true)(a1:(c.veiledFits P M.params.toList (M.params.toList++s.plain.varTypes P++M.resultTypes.toList))=true):joinedFacts P f M s c=true:=by
 unfold joinedFacts
 exact (Gi.2 ⟨(Gi.2 ⟨(Gi.2 ⟨(Gi.2 ⟨(Gi.2 ⟨(Gi.2 ⟨(Gi.2 ⟨(Gi.2 ⟨(Gi.2 ⟨(Gi.2 ⟨(Gi.2 ⟨(Gi.2 ⟨(Gi.2 ⟨(Gi.2 ⟨(Gi.2 ⟨(Gi.2 ⟨(Gi.2 ⟨(Gi.2 ⟨(Gi.2 ⟨(Gi.2 ⟨(Gi.2 ⟨(Gi.2 ⟨(Gi.2 ⟨(Gi.2 ⟨(Gi.2 ⟨(Gi.2 ⟨(Gi.2 ⟨(Gi.2 ⟨(Gi.2 ⟨(Gi.2 ⟨(Gi.2 ⟨h1,h2⟩),h3⟩),h4⟩),h5⟩),h6⟩),h7⟩),h8⟩),h9⟩),ab⟩),aa⟩),ax⟩),av⟩),aj⟩),au⟩),aq⟩),ao⟩),ap⟩),az⟩),a3⟩),ar⟩),a0⟩),a4⟩),ay⟩),ae⟩),ak⟩),ad⟩),ah⟩),aw⟩),an⟩),ai⟩),a1⟩)
theorem cg5{f:FuncId}{M:List Value}(h:eu P ⟨w.os,w.tape,w.output,w.drawn⟩ f M [old w.heap.size w] λr J=>r = .bool true/\[old w.heap.size w]=J) :
  Calls P f M.toArray w λe w'=>e = .returned (.bool true)/\Below w.heap.size w w':=
 (h w<|Sep.begin w).mono λe w' ⟨v,J,he,⟨hv,hJ⟩,hs⟩=>by
  subst hv hJ
  exact ⟨he,hs.below A_⟩
end
end Go.Sl
