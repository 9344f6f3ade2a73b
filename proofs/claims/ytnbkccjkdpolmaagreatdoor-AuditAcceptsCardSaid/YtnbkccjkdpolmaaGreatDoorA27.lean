/- A part of the proofs of statements of this seat: contracts of functions, and the plain laws that they lean on. No conditions. -/
import Derived.Test.YtnbkccjkdpolmaaGreatDoorA26
import Derived.ProofKit
import Derived.OpenShut
import Derived.ChangeOld
import Derived.Below
import Derived.SizedLaws
import Derived.JoinedOf
import Derived.Deep.Slices
import Derived.Deep.Fields
set_option linter.unusedVariables false
set_option linter.unusedSimpArgs false
set_option linter.unusedSectionVars false
set_option maxHeartbeats 8000000
namespace Go.Sl
open Go.Proofs
set_option maxRecDepth 4000
attribute [local irreducible] W G V D A Runs Eff
structure AnB (A:AnV):Prop where
 num : -1000000<=A.num/\A.num<=1000000
 tm:0<=A.tm/\A.tm<=1048576
 E:0<=A.E/\A.E<=64
 nb:∀x∈A.N, -1000<=x/\x<=1000
 len:(A.N.length<=1000/\A.O.length<=1000)/\A.P.length<=1000/\A.Q.length<=2016
theorem clq_len{nd:Int}{es:List Pt}{X:List Int}(h:bestCl nd es X):X.length<=64:=by
 have h1:=List.Nodup.length_le_of_subset h.clq.clq.nodup h.clq.sub
 have M:=Ee (allB nd)
 omega
theorem zero_bnd{A:AnV}(h:A.zero):AnB A:=by
 obtain ⟨⟨_,h2,_,_,_,h6⟩,⟨h7,h8,h9,M⟩,aa⟩:=h
 exact ⟨by omega,by omega,by omega,(λx hx=>by rw [h8] at hx;cases hx),by rw [h8,h7,h6,M];simp⟩
section
variable {nd kd wd mo K node lv tq num den:Int}{es:List Ev}{S:List Int}{A:AnV}
theorem core_bnd{nd:Int}{es:List Pt}(M:GrOk nd es)(h7:nd<=7):(∀x∈coreN nd es, -1000<=x/\x<=1000)/\(coreN nd es).length<=1000/\(coreO nd es).length<=1000:=by
 have h1:=coreN_lenG M
 have h2:=coreO_len M
 refine ⟨λx hx=>?_,by omega,by omega⟩
 obtain ⟨i,hi,rfl⟩:=E7 hx
 have:=core_pos M (u:=(i:Int)) om om
 omega
theorem gr_bnd{es:List Pt}(hG:GrOk nd es)(h7:nd<=7)(hK:1<=K/\K<=7)(hn:K=1->0<=node/\node<nd)(ht:0<=A.tm/\A.tm<=1048576)(h:GrP nd es K node lv S A):AnB A:=by
 have aa:=edges_7 hG h7
 obtain ⟨c1,c2,c3⟩:=core_bnd hG h7
 rcases (show K=1\/K=2\/K=3\/K=4\/K=5\/K=6\/K=7 by omega) with e|e|e|e|e|e|e
 ·obtain ⟨⟨_,a2,_,_,_,a6⟩,a7,a8,a9,M⟩:=h.k1 e
  have hc:=coreN_lenG hG
  have:=c1 _ (Bx (i:=node) (hn e).1 (by have:=hn e;omega))
  exact ⟨by omega,ht,by omega,by rw [a8];exact c1,by rw [a8,a7,a6,M];exact ⟨⟨c2,c3⟩,by simp,by simp⟩⟩
 ·obtain ⟨⟨_,a2,_,_,_,a6⟩,a7,a8,a9,M⟩:=h.k2 e
  exact ⟨by omega,ht,by omega,by rw [a8];exact c1,by rw [a8,a7,a6,M];exact ⟨⟨c2,c3⟩,by simp,by simp⟩⟩
 ·obtain ⟨y,hE,_,_,_,a6,a9,M⟩:=h.k3 e
  have ab:=trussG_lenE hG
  have ad:=(trussG_E hG).olen
  have ae:(trisE nd es).length=es.length:=List.length_map ..
  have hb:∀x∈trussG nd es, -1000<=x/\x<=1000:=λx hx=>by
   obtain ⟨i,hi,rfl⟩:=E7 hx
   have:=trussG_pos hG (u:=(i:Int)) om om
   omega
  by_cases hy:y<0
  ·obtain ⟨b1,b2,b3⟩:=hE.none hy
   exact ⟨by omega,ht,by omega,(λx hx=>by rw [b2] at hx;cases hx),by rw [b2,b3,a6,M];simp⟩
  obtain ⟨b1,b2,b3⟩:=hE.some om
  have:=hb _ (Bx (i:=y) om<|find_lt hG hE.find)
  exact ⟨by omega,ht,by omega,by rw [b2];exact hb,by rw [b2,b3,a6,M];exact ⟨⟨by omega,by omega⟩,by simp,by simp⟩⟩
 ·obtain ⟨⟨_,a2,_,_,_,a6⟩,a7,a8,a9,M⟩:=h.k4 e
  exact ⟨by omega,ht,by omega,(λx hx=>by rw [a8] at hx;cases hx),by rw [a8,a7,a6,M];simp⟩
 ·obtain ⟨⟨B,h1,h2,h3⟩,_,a2,a6,a7,a8⟩:=h.k5 e
  obtain ⟨_,hF,hE,hP,hD,_⟩:=AccD.ok hG (S:=eo B) ⟨B,h1,h2,rfl⟩
  have hl:=hP.len
  exact ⟨by omega,ht,by omega,(λx hx=>by rw [a8] at hx;cases hx),by rw [a8,a7,a6,hl];exact ⟨by simp,by simp,by omega⟩⟩
 ·obtain ⟨hc,⟨_,a2,_,_,_,a6⟩,a7,a8,a9,M⟩:=h.k6 e
  have:=clq_len hc
  exact ⟨by omega,ht,by omega,(λx hx=>by rw [a8] at hx;cases hx),by rw [a8,a7,a6,M];simp⟩
 obtain ⟨⟨_,a2,_,_,_,a6⟩,a7,a8,a9,M⟩:=h.k7 e
 have:=triS_bd hG
 exact ⟨by omega,ht,by omega,(λx hx=>by rw [a8] at hx;cases hx),by rw [a8,a7,a6,M];simp⟩
theorem ans_bnd(hH:HistOk nd kd wd mo es)(hlen:es.length<=19)(h7:nd<=7)(hq:QV nd K node lv tq S num den)(h:AnsP nd kd wd mo es K node lv tq S num den A):AnB A:=by
 have hK:=hq.rng
 rcases (show K=8\/K=9\/K=10\/K<=7 by omega) with e|e|e|e
 ·obtain ⟨tv,ok,hF,h1,h2⟩:=h.k8 e
  have hr:=first_rng hH hF
  cases ok with
  |true=>exact gr_bnd (hH.graph _) h7 dc (λh=>absurd h dc) (by rw [(h1 rfl).2];exact hr.1) (h1 rfl).1
  |false=>exact zero_bnd (h2 rfl)
 ·obtain ⟨tv,ok,hF,h1,h2⟩:=h.k9 e
  have hr:=first_rng hH hF
  cases ok with
  |true=>
   obtain ⟨⟨_,a2,_,_,_,a6⟩,⟨a7,a8,a9,M⟩,aa⟩:=h1 rfl
   exact ⟨by omega,by rw [aa];exact hr.1,by omega,(λx hx=>by rw [a8] at hx;cases hx),by rw [a8,a7,a6,M];simp⟩
  |false=>exact zero_bnd (h2 rfl)
 ·obtain ⟨⟨_,a2,_,_,_,a6⟩,⟨a7,a8,a9,M⟩,aa⟩:=h.k10 e
  have hs:=spanK_len (N:=numT nd kd wd mo es node) (E:=allE kd wd mo es) (allE kd wd mo es).length (Nat.le_refl _)
  have hl:=allE_len hH hlen
  exact ⟨by omega,by omega,by omega,(λx hx=>by rw [a8] at hx;cases hx),by rw [a8,a7,a6,M];exact ⟨by simp,by omega,by simp⟩⟩
 exact gr_bnd (hH.graph _) h7 ⟨hK.1,e⟩ (λh=>hq.node<|by rw [h];rfl) (by rw [(h.g e).2];omega) (h.g e).1
end
theorem HdA.up{κ:Ctx}{I Y:List Item}{A:AnV}(h:HdA κ I A):HdA κ (Y++I) A:=⟨Bm h.s (Fw _ _),Bm h.p (Fw _ _),Bm h.o (Fw _ _),Bm h.n (Fw _ _),Bm h.q (Fw _ _),h.b⟩
theorem Bent_ok{κ:Ctx}{I:List Item}{b:Nat}{lv:Value}{ls:List Int}{i:Int}{Aw:AnV}(hl:Sl κ I lv ls)(h0:0<=i)(hA:HdA κ I Aw)(hB:AnB Aw):eu Tryz.prog κ 15 [.pointer (some ⟨b,0,none⟩),.agg #[.bool (Aw.fd),e7 (Aw.num),e7 (Aw.tm),.slice Aw.sa Aw.S.length Aw.sc,e7 (Aw.dn),e7 (Aw.dd),.slice Aw.pa Aw.P.length Aw.pc,.slice Aw.oa Aw.O.length Aw.oc,.slice Aw.na Aw.N.length Aw.nc,e7 (Aw.E),.slice Aw.qa Aw.Q.length Aw.qc]] (e8 b [lv,e7 i] 65::I) (λr J=>∃(B:AnV) (Y:List Item) (q:Int),r=B.val/\HdA κ (Y++I) B/\B.E<=1000/\0<=q/\J=Y++(deck b lv q::I)):=by
 have hU:∀Y,HdA κ (Y++I) Aw:=λY=>hA.up
 have cf:=hB.num
 have ck:=hB.tm
 have cg:=hB.E
 have ch:=hB.len
 have ah:Aw.E<=1000:=by omega
 refine Ce2 Tryz.func15 C C ?_
 refine Ar<|Ge1 (Al (cs:=[_,_,_,_,_,_,_,_,_,_,_]) C C C) λb1=>Ge1 (Am ty42 C) λb2=>Z ?_
 refine G.e (Ac c_ C C<|Next_ok (by repeat (first|exact AtF.head _ _|apply AtF.tail)) (Au hl) om om) ?_
 rintro _ _ ⟨_,_,⟨x3,i4,rfl,cj,cd,rfl⟩,rfl,rfl⟩
 refine Z ?_
 refine Ap C (λc7=>Z ?_)<|λc7=>Z ?_
 ·refine Ge0 (A3 (cs:=[_,_,_,_,_,_,_,_,_,_,_]) (vs:=[_]) (cs':=[_,_,_,_,_,_,_,_,_,_,_]) ty4) (Z ?_)
  refine Ge0 (A3 (cs:=[_,_,_,_,_,_,_,_,_,_,_]) (vs:=[_,_,_,_,_,_,_,_,_,_,_]) (cs':=[_,_,_,_,_,_,_,_,_,_,_]) ty42) ?_
  exact As<|Bf<|B0 C ty42 C mm C (e8 b [lv,e7 i4] 65::I) Bb ⟨{Aw with fd:= !Aw.fd},[],i4,rfl,⟨(hU _).s,(hU _).p,(hU _).o,(hU _).n,(hU _).q,hA.b⟩,ah,by omega,rfl⟩
 refine Ap C (λc13=>?_)<|λc13=>Z ?_
 ·refine A4 mixed (Cm (e8 b2 [.bool false,e7 0,e7 0,.slice none 0 0,e7 0,e7 0,.slice none 0 0,.slice none 0 0,.slice none 0 0,e7 0,.slice none 0 0] 42::e8 b1 [.bool (Aw.fd),e7<|Aw.num,e7<|Aw.tm,.slice Aw.sa Aw.S.length Aw.sc,e7<|Aw.dn,e7<|Aw.dd,.slice Aw.pa Aw.P.length Aw.pc,.slice Aw.oa Aw.O.length Aw.oc,.slice Aw.na Aw.N.length Aw.nc,e7<|Aw.E,.slice Aw.qa Aw.Q.length Aw.qc] 42::I) 7<|Z ?_)
  refine Ds1 3<|Se C (Ac c_ C C<|Next_ok (by repeat (first|exact AtF.head _ _|apply AtF.tail)) (Au hl) om om) ?_
  rintro _ _ ⟨_,_,⟨x5,i6,rfl,ce,cm,rfl⟩,rfl,rfl⟩
  refine ⟨Aj,?_⟩
  show D Tryz.prog κ _ _ _ _ _ _ _ ([(18,e7 x5),(17,.pointer<|some ⟨b,0,none⟩),(16,e7<|Aw.num),(15,.pointer<|some ⟨b1,1,none⟩),(13,.bool<|decide<|x3=1),(14,.bool<|decide<|x3=1),(7,.bool<|decide<|x3=0),(8,.bool<|decide<|x3=0),(6,e7 x3),(5,.pointer<|some ⟨b,0,none⟩),(4,.pointer<|some ⟨b2,0,none⟩),(3,.pointer<|some ⟨b1,0,none⟩),(0,.pointer<|some ⟨b,0,none⟩),(1,.agg #[.bool (Aw.fd),e7<|Aw.num,e7<|Aw.tm,.slice Aw.sa Aw.S.length Aw.sc,e7<|Aw.dn,e7<|Aw.dd,.slice Aw.pa Aw.P.length Aw.pc,.slice Aw.oa Aw.O.length Aw.oc,.slice Aw.na Aw.N.length Aw.nc,e7<|Aw.E,.slice Aw.qa Aw.Q.length Aw.qc])]:Env) (e8 b2 [.bool false,e7 0,e7 0,.slice none 0 0,e7 0,e7 0,.slice none 0 0,.slice none 0 0,.slice none 0 0,e7 0,.slice none 0 0] 42::e8 b1 [.bool (Aw.fd),e7<|Aw.num,e7<|Aw.tm,.slice Aw.sa Aw.S.length Aw.sc,e7<|Aw.dn,e7<|Aw.dd,.slice Aw.pa Aw.P.length Aw.pc,.slice Aw.oa Aw.O.length Aw.oc,.slice Aw.na Aw.N.length Aw.nc,e7<|Aw.E,.slice Aw.qa Aw.Q.length Aw.qc] 42::e8 b [lv,e7 i6] 65::I)
  refine Z ?_
  refine C3 kr ?_
  refine Ae 7 C (A3 (cs:=[_,_,_,_,_,_,_,_,_,_,_]) (vs:=[_]) (cs':=[_,_,_,_,_,_,_,_,_,_,_]) ef) ?_
  rintro _ _ ⟨rfl,rfl⟩
  refine C4 kr<|Z ?_
  refine Ge0 (A3 (cs:=[_,_,_,_,_,_,_,_,_,_,_]) (vs:=[_,_,_,_,_,_,_,_,_,_,_]) (cs':=[_,_,_,_,_,_,_,_,_,_,_]) ty42) ?_
  exact As<|Bf<|B0 C ty42 C mm C (e8 b [lv,e7 i6] 65::I) Bb ⟨{Aw with num:=Aw.num+(x5 - 1)},[],i6,rfl,⟨(hU _).s,(hU _).p,(hU _).o,(hU _).n,(hU _).q,hA.b⟩,ah,by omega,rfl⟩
 refine Ap C (λbj=>Z ?_)<|λbj=>Z ?_
 ·refine Ge0 (A3 (cs:=[_,_,_,_,_,_,_,_,_,_,_]) (vs:=[_]) (cs':=[_,_,_,_,_,_,_,_,_,_,_]) ef) (Z ?_)
  refine Ge0 (A3 (cs:=[_,_,_,_,_,_,_,_,_,_,_]) (vs:=[_,_,_,_,_,_,_,_,_,_,_]) (cs':=[_,_,_,_,_,_,_,_,_,_,_]) ty42) ?_
  exact As<|Bf<|B0 C ty42 C mm C (e8 b [lv,e7 i4] 65::I) Bb ⟨{Aw with tm:=Aw.tm+1},[],i4,rfl,⟨(hU _).s,(hU _).p,(hU _).o,(hU _).n,(hU _).q,hA.b⟩,ah,by omega,rfl⟩
 refine Ap C (λbp=>?_)<|λbp=>Z ?_
 ·refine Be (Gm C<|G.e (Ac c_ C C<|Set_at (by repeat (first|exact AtF.head _ _|apply AtF.tail)) (λ_=>Bm hl Ah) om om) ?_)
  rintro _ _ ⟨_,_,⟨a9,a5,av,i7,rfl,ca,bh,ci,rfl⟩,rfl,rfl⟩
  refine Gf fld42_3 C<|Ge0 (A3 (cs:=[_,_,_,_,_,_,_,_,_,_,_]) (vs:=[_]) (cs':=[_,_,_,_,_,_,_,_,_,_,_]) ty22)<|Z ?_
  refine Ge0 (A3 (cs:=[_,_,_,_,_,_,_,_,_,_,_]) (vs:=[_,_,_,_,_,_,_,_,_,_,_]) (cs':=[_,_,_,_,_,_,_,_,_,_,_]) ty42) ?_
  exact As<|Bf<|B0 C ty42 C mm C (vc 3 (.slice a9 av.length a5) (av)::e8 b [lv,e7 i7] 65::I) Bb ⟨{Aw with sa:=a9,sc:=a5,S:=av},[vc 3 (.slice a9 av.length a5) av],i7,rfl,⟨Em mm,(hU _).p,(hU _).o,(hU _).n,(hU _).q,hA.b⟩,ah,by omega,rfl⟩
 refine Ap C (λbn=>?_)<|λbn=>Z ?_
 ·refine Be (Gm C<|G.e (Ac c_ C C<|MkFrac_at (by repeat (first|exact AtF.head _ _|apply AtF.tail)) (λ_=>Bm hl Ah) om  ) ?_)
  rintro _ _ ⟨_,_,⟨⟨bb,ba,a8⟩,⟨⟨rfl,a0,aw⟩,a1⟩,rfl⟩,rfl,rfl⟩
  have a1:0<=a8:=a1
  dsimp only at a0
  dsimp only at aw
  refine Gf fld42_4 C<|Ge0 (A3 (cs:=[_,_,_,_,_,_,_,_,_,_,_]) (vs:=[_,_]) (cs':=[_,_,_,_,_,_,_,_,_,_,_]) ty34)<|Z ?_
  refine Ge0 (A3 (cs:=[_,_,_,_,_,_,_,_,_,_,_]) (vs:=[_,_,_,_,_,_,_,_,_,_,_]) (cs':=[_,_,_,_,_,_,_,_,_,_,_]) ty42) ?_
  exact As<|Bf<|B0 C ty42 C mm C (e8 b [lv,e7 a8] 65::I) Bb ⟨{Aw with dn:=bb,dd:=ba},[],a8,rfl,⟨(hU _).s,(hU _).p,(hU _).o,(hU _).n,(hU _).q,hA.b⟩,ah,by omega,rfl⟩
 refine Ap C (λbi=>Z ?_)<|λbi=>Z ?_
 ·refine Ge2 (Eff.clone (α:=Pt) (ys:=Aw.P) C1 ty51 C C C (Au hA.p) (by (try simp only [List.length_cons,List.length_nil]);omega) dc C) λb7 b8=>?_
  refine Gm C<|G.e (Ac c_ C C<|Next_ok (by repeat (first|exact AtF.head _ _|apply AtF.tail)) (Au hl) om om) ?_
  rintro _ _ ⟨_,_,⟨ao,cn,rfl,bt,b3,rfl⟩,rfl,rfl⟩
  refine Gm C<|G.e (Ac c_ C C<|Next_ok (by repeat (first|exact AtF.head _ _|apply AtF.tail)) (Au hl) om om) ?_
  rintro _ _ ⟨_,_,⟨an,bc,rfl,cb,bv,rfl⟩,rfl,rfl⟩
  refine Z ?_
  refine Ge1 (B9 (α:=Pt) (cs:=[_,_]) (xs:=[⟨ao,an⟩]) C1 ty51 C C dc dc C C C C) λb6=>?_
  refine Ge2 (B4 (α:=Pt) (e:=51) (xs:=Aw.P) (ys:=([⟨ao,an⟩]:List Pt)) C1 ty51 C C C mm A7 (by (try simp only [List.length_cons,List.length_nil]);omega) dc C<|λ_ _=>am) λau ay=>?_
  refine Gf fld42_5 C<|Ge0 (A3 (cs:=[_,_,_,_,_,_,_,_,_,_,_]) (vs:=[_]) (cs':=[_,_,_,_,_,_,_,_,_,_,_]) ty38)<|Z ?_
  refine Ge0 (A3 (cs:=[_,_,_,_,_,_,_,_,_,_,_]) (vs:=[_,_,_,_,_,_,_,_,_,_,_]) (cs':=[_,_,_,_,_,_,_,_,_,_,_]) ty42) ?_
  exact As<|Bf<|B0 C ty42 C mm C (vc 51 (.slice au (Aw.P++([⟨ao,an⟩]:List Pt)).length ay) (Aw.P++([⟨ao,an⟩]:List Pt))::e8 b [lv,e7 bc] 65::I) Bb ⟨{Aw with pa:=au,pc:=ay,P:=Aw.P++([⟨ao,an⟩]:List Pt)},[vc 51 (.slice au (Aw.P++([⟨ao,an⟩]:List Pt)).length ay) (Aw.P++([⟨ao,an⟩]:List Pt))],bc,rfl,⟨(hU _).s,Em mm,(hU _).o,(hU _).n,(hU _).q,hA.b⟩,ah,by omega,rfl⟩
 refine Ap C (λbe=>Z ?_)<|λbe=>Z ?_
 ·refine G.e (Ac c_ C C<|Order_at (by repeat (first|exact AtF.head _ _|apply AtF.tail)) (λ_=>Bm hl Ah) om  om) ?_
  rintro _ _ ⟨_,_,⟨⟨ax,ar,ai,a4⟩,⟨⟨rfl,az⟩,a3⟩,rfl⟩,rfl,rfl⟩
  have a3:0<=a4:=a3
  dsimp only at az
  refine Gf fld42_6 C<|Ge0 (A3 (cs:=[_,_,_,_,_,_,_,_,_,_,_]) (vs:=[_]) (cs':=[_,_,_,_,_,_,_,_,_,_,_]) ty22)<|Z ?_
  refine Ge0 (A3 (cs:=[_,_,_,_,_,_,_,_,_,_,_]) (vs:=[_,_,_,_,_,_,_,_,_,_,_]) (cs':=[_,_,_,_,_,_,_,_,_,_,_]) ty42) ?_
  exact As<|Bf<|B0 C ty42 C mm C (vc 3 (.slice ax ai.length ar) (ai)::e8 b [lv,e7 a4] 65::I) Bb ⟨{Aw with oa:=ax,oc:=ar,O:=ai},[vc 3 (.slice ax ai.length ar) ai],a4,rfl,⟨(hU _).s,(hU _).p,Em mm,(hU _).n,(hU _).q,by show _+_<=1000000;(try simp only [List.length_set]);first|omega|(simp only [List.length_cons,List.length_nil];omega)⟩,ah,by omega,rfl⟩
 refine Ap C (λbq=>Z ?_)<|λbq=>Z ?_
 ·refine Ge2 (Eff.clone (α:=Int) (ys:=Aw.N) Aa ef C C C (Au hA.n) (by (try simp only [List.length_cons,List.length_nil]);omega) dc C) λad M=>?_
  refine Gf fld42_7 C<|Ge0 (A3 (cs:=[_,_,_,_,_,_,_,_,_,_,_]) (vs:=[_]) (cs':=[_,_,_,_,_,_,_,_,_,_,_]) ty22) ?_
  refine As<|Bg (S3 4 3 0 C C C)<|Ar<|Gf fld42_7 C<|Gl ty22 ?_
  refine Gr (Ca Aa C)<|Gr (Df C C)<|As<|Ap C (λbf=>?_)<|λbf=>?_
  ·refine A4 mixed (Cm (vc 3 (.slice ad (Aw.N).length M) (Aw.N)::e8 b2 [.bool false,e7 0,e7 0,.slice none 0 0,e7 0,e7 0,.slice none 0 0,.slice none 0 0,.slice none 0 0,e7 0,.slice none 0 0] 42::e8 b1 [.bool (Aw.fd),e7<|Aw.num,e7<|Aw.tm,.slice Aw.sa Aw.S.length Aw.sc,e7<|Aw.dn,e7<|Aw.dd,.slice Aw.pa Aw.P.length Aw.pc,.slice Aw.oa Aw.O.length Aw.oc,.slice ad (Aw.N).length M,e7<|Aw.E,.slice Aw.qa Aw.Q.length Aw.qc] 42::I) 14<|Dr 0 C (Ad fld42_7 C)<|Dr 1 C (Ax ty22) ?_)
   refine Dr 2 C (Af C)<|Dr 3 C (Ad fld42_7 C)<|Dr 4 C (Ax ty22) ?_
   refine Dr 5 C (Ca Aa C)<|Dr 9 C (Af C)<|Ds1 6<|Se C (Ac c_ C C<|Next_ok (by repeat (first|exact AtF.head _ _|apply AtF.tail)) (Au hl) om om) ?_
   rintro _ _ ⟨_,_,⟨ae,bo,rfl,bw,br,rfl⟩,rfl,rfl⟩
   refine ⟨Aj,?_⟩
   show D Tryz.prog κ _ _ _ _ _ _ _ ([(75,e7 ae),(78,.pointer<|some ⟨b,0,none⟩),(74,e7<|(((Aw.N).length:Nat):Int)),(73,.slice ad (Aw.N).length M),(72,.pointer<|some ⟨b1,8,none⟩),(71,.pointer<|some ⟨b,0,none⟩),(70,.slice ad (Aw.N).length M),(69,.pointer<|some ⟨b1,8,none⟩),(68,.bool<|decide<|0<(((Aw.N).length:Nat):Int)),(67,e7<|(((Aw.N).length:Nat):Int)),(66,.slice ad (Aw.N).length M),(65,.pointer<|some ⟨b1,8,none⟩),(4,.pointer<|some ⟨b2,0,none⟩),(3,.pointer<|some ⟨b1,0,none⟩),(0,.pointer<|some ⟨b,0,none⟩)]:Env) (vc 3 (.slice ad (Aw.N).length M) (Aw.N)::e8 b2 [.bool false,e7 0,e7 0,.slice none 0 0,e7 0,e7 0,.slice none 0 0,.slice none 0 0,.slice none 0 0,e7 0,.slice none 0 0] 42::e8 b1 [.bool (Aw.fd),e7<|Aw.num,e7<|Aw.tm,.slice Aw.sa Aw.S.length Aw.sc,e7<|Aw.dn,e7<|Aw.dd,.slice Aw.pa Aw.P.length Aw.pc,.slice Aw.oa Aw.O.length Aw.oc,.slice ad (Aw.N).length M,e7<|Aw.E,.slice Aw.qa Aw.Q.length Aw.qc] 42::e8 b [lv,e7 bo] 65::I)
   refine Z ?_
   have cc:=hB.nb _ (Bx (xs:=Aw.N) (i:=ae) om om)
   refine Ds1 10<|Se C (Ac c_ C C<|Next_ok (by repeat (first|exact AtF.head _ _|apply AtF.tail)) (Au hl) om om) ?_
   rintro _ _ ⟨_,_,⟨ap,a7,rfl,bu,bz,rfl⟩,rfl,rfl⟩
   refine ⟨Aj,?_⟩
   show D Tryz.prog κ _ _ _ _ _ _ _ ([(79,e7 ap),(77,e7<|e_ Aw.N ae),(76,elemPtr (.slice ad (Aw.N).length M)<|(ae).toNat*Enc.sz Int),(75,e7 ae),(78,.pointer<|some ⟨b,0,none⟩),(74,e7<|(((Aw.N).length:Nat):Int)),(73,.slice ad (Aw.N).length M),(72,.pointer<|some ⟨b1,8,none⟩),(71,.pointer<|some ⟨b,0,none⟩),(70,.slice ad (Aw.N).length M),(69,.pointer<|some ⟨b1,8,none⟩),(68,.bool<|decide<|0<(((Aw.N).length:Nat):Int)),(67,e7<|(((Aw.N).length:Nat):Int)),(66,.slice ad (Aw.N).length M),(65,.pointer<|some ⟨b1,8,none⟩),(4,.pointer<|some ⟨b2,0,none⟩),(3,.pointer<|some ⟨b1,0,none⟩),(0,.pointer<|some ⟨b,0,none⟩)]:Env) (vc 3 (.slice ad (Aw.N).length M) (Aw.N)::e8 b2 [.bool false,e7 0,e7 0,.slice none 0 0,e7 0,e7 0,.slice none 0 0,.slice none 0 0,.slice none 0 0,e7 0,.slice none 0 0] 42::e8 b1 [.bool (Aw.fd),e7<|Aw.num,e7<|Aw.tm,.slice Aw.sa Aw.S.length Aw.sc,e7<|Aw.dn,e7<|Aw.dd,.slice Aw.pa Aw.P.length Aw.pc,.slice Aw.oa Aw.O.length Aw.oc,.slice ad (Aw.N).length M,e7<|Aw.E,.slice Aw.qa Aw.Q.length Aw.qc] 42::e8 b [lv,e7 a7] 65::I)
   refine Z ?_
   refine C3 kr ?_
   refine Ae 14 C (Ci (α:=Int) (xs:=Aw.N) (e:=3) (new:=(e_ Aw.N ae)+(ap - 1)) ef C C C om oo am) ?_
   rintro _ _ ⟨rfl,rfl⟩
   refine C4 kr<|Z ?_
   refine Ge0 (A3 (cs:=[_,_,_,_,_,_,_,_,_,_,_]) (vs:=[_,_,_,_,_,_,_,_,_,_,_]) (cs':=[_,_,_,_,_,_,_,_,_,_,_]) ty42) ?_
   exact As<|Bf<|B0 C ty42 C mm C (vc 3 (.slice ad (Aw.N).length M) (List.set Aw.N (ae).toNat ((e_ Aw.N ae)+(ap - 1)))::e8 b [lv,e7 a7] 65::I) Bb ⟨{Aw with na:=ad,nc:=M,N:=List.set Aw.N (ae).toNat ((e_ Aw.N ae)+(ap - 1))},[vc 3 (.slice ad (Aw.N).length M) (List.set Aw.N (ae).toNat ((e_ Aw.N ae)+(ap - 1)))],a7,(by show Value.agg _=AnV.val _;simp only [AnV.val,List.length_set]),⟨(hU _).s,(hU _).p,(hU _).o,(by show Sl κ _ (.slice ad (List.set Aw.N (ae).toNat ((e_ Aw.N ae)+(ap - 1))).length M) (List.set Aw.N (ae).toNat ((e_ Aw.N ae)+(ap - 1)));rw [List.length_set];exact Em mm),(hU _).q,by show _+_<=1000000;(try simp only [List.length_set]);first|omega|(simp only [List.length_cons,List.length_nil];omega)⟩,ah,by omega,rfl⟩
  refine Be<|Ge1 (B9 (α:=Int) (cs:=[_]) (xs:=[1]) Aa ef C C dc dc C C C C) λaq=>?_
  refine Gf fld42_7 C<|Ge0 (A3 (cs:=[_,_,_,_,_,_,_,_,_,_,_]) (vs:=[_]) (cs':=[_,_,_,_,_,_,_,_,_,_,_]) ty22)<|Z ?_
  refine Ge0 (A3 (cs:=[_,_,_,_,_,_,_,_,_,_,_]) (vs:=[_,_,_,_,_,_,_,_,_,_,_]) (cs':=[_,_,_,_,_,_,_,_,_,_,_]) ty42) ?_
  exact As<|Bf<|B0 C ty42 C mm C (vc 3 (.slice aq 1 1) (([1]:List Int))::e8 b [lv,e7 i4] 65::I) Bb ⟨{Aw with na:=aq,nc:=1,N:=([1]:List Int)},[vc 3 (.slice aq 1 1) (([1]:List Int))],i4,rfl,⟨(hU _).s,(hU _).p,(hU _).o,Em mm,(hU _).q,by show _+_<=1000000;(try simp only [List.length_set]);first|omega|(simp only [List.length_cons,List.length_nil];omega)⟩,ah,by omega,rfl⟩
 refine Ap C (λbg=>Z ?_)<|λbg=>Z ?_
 ·refine Ge2 (Eff.clone (α:=Int) (ys:=Aw.Q) Aa ef C C C (Au hA.q) (by (try simp only [List.length_cons,List.length_nil]);omega) dc C) λaa ab=>Z ?_
  refine Ge0 (A3 (cs:=[_,_,_,_,_,_,_,_,_,_,_]) (vs:=[_]) (cs':=[_,_,_,_,_,_,_,_,_,_,_]) ty22)<|Z ?_
  refine Z ?_
  refine Bg (S4 97 4 3 0 C C C C)<|Ap C (λbk=>?_)<|λbk=>Z ?_
  ·refine A4 mixed (Cm (vc 3 (.slice aa (Aw.Q).length ab) (Aw.Q)::e8 b2 [.bool false,e7 0,e7 0,.slice none 0 0,e7 0,e7 0,.slice none 0 0,.slice none 0 0,.slice none 0 0,e7 0,.slice none 0 0] 42::e8 b1 [.bool (Aw.fd),e7<|Aw.num,e7<|Aw.tm,.slice Aw.sa Aw.S.length Aw.sc,e7<|Aw.dn,e7<|Aw.dd,.slice Aw.pa Aw.P.length Aw.pc,.slice Aw.oa Aw.O.length Aw.oc,.slice Aw.na Aw.N.length Aw.nc,e7<|Aw.E,.slice aa (Aw.Q).length ab] 42::I) 16<|Dr 0 C (Ad fld42_8 C)<|Dr 1 C (Ad fld40_1 C)<|Dr 2 C (Ax ty22) ?_)
   refine Dr 3 C (Af C)<|Dr 4 C (Ad fld42_8 C)<|Dr 5 C (Ad fld40_1 C)<|Dr 6 C (Ax ty22) ?_
   refine Dr 7 C (Ca Aa C)<|Dr 9 C (Af C)<|Dr 10 C (Ad fld42_8 C)<|Dr 11 C (Ad fld40_0 C)<|Dr 12 C (Ax ef) ?_
   refine Dr 13 C (Rad C C)<|Ds1 8<|Se C (Ac c_ C C<|Next_ok (by repeat (first|exact AtF.head _ _|apply AtF.tail)) (Au hl) om om) ?_
   rintro _ _ ⟨_,_,⟨aj,bm,rfl,bx,b4,rfl⟩,rfl,rfl⟩
   refine ⟨Aj,?_⟩
   show D Tryz.prog κ _ _ _ _ _ _ _ ([(106,e7 aj),(111,e7<|Aw.E+1),(110,e7<|Aw.E),(109,.pointer<|some ⟨b1,9,none⟩),(108,.pointer<|some ⟨b1,9,none⟩),(107,.pointer<|some ⟨b,0,none⟩),(105,e7<|(((Aw.Q).length:Nat):Int)),(104,.slice aa (Aw.Q).length ab),(103,.pointer<|some ⟨b1,10,none⟩),(102,.pointer<|some ⟨b1,9,none⟩),(101,.pointer<|some ⟨b,0,none⟩),(100,.slice aa (Aw.Q).length ab),(99,.pointer<|some ⟨b1,10,none⟩),(98,.pointer<|some ⟨b1,9,none⟩),(97,.bool<|decide<|0<(((Aw.Q).length:Nat):Int)),(4,.pointer<|some ⟨b2,0,none⟩),(3,.pointer<|some ⟨b1,0,none⟩),(0,.pointer<|some ⟨b,0,none⟩)]:Env) (vc 3 (.slice aa (Aw.Q).length ab) (Aw.Q)::e8 b2 [.bool false,e7 0,e7 0,.slice none 0 0,e7 0,e7 0,.slice none 0 0,.slice none 0 0,.slice none 0 0,e7 0,.slice none 0 0] 42::e8 b1 [.bool (Aw.fd),e7<|Aw.num,e7<|Aw.tm,.slice Aw.sa Aw.S.length Aw.sc,e7<|Aw.dn,e7<|Aw.dd,.slice Aw.pa Aw.P.length Aw.pc,.slice Aw.oa Aw.O.length Aw.oc,.slice Aw.na Aw.N.length Aw.nc,e7<|Aw.E,.slice aa (Aw.Q).length ab] 42::e8 b [lv,e7 bm] 65::I)
   refine Ds1 14<|Se C (Ac c_ C C<|Next_ok (by repeat (first|exact AtF.head _ _|apply AtF.tail)) (Au hl) om om) ?_
   rintro _ _ ⟨_,_,⟨ak,a6,rfl,b5,b9,rfl⟩,rfl,rfl⟩
   refine ⟨Aj,?_⟩
   show D Tryz.prog κ _ _ _ _ _ _ _ ([(112,e7 ak),(106,e7 aj),(111,e7<|Aw.E+1),(110,e7<|Aw.E),(109,.pointer<|some ⟨b1,9,none⟩),(108,.pointer<|some ⟨b1,9,none⟩),(107,.pointer<|some ⟨b,0,none⟩),(105,e7<|(((Aw.Q).length:Nat):Int)),(104,.slice aa (Aw.Q).length ab),(103,.pointer<|some ⟨b1,10,none⟩),(102,.pointer<|some ⟨b1,9,none⟩),(101,.pointer<|some ⟨b,0,none⟩),(100,.slice aa (Aw.Q).length ab),(99,.pointer<|some ⟨b1,10,none⟩),(98,.pointer<|some ⟨b1,9,none⟩),(97,.bool<|decide<|0<(((Aw.Q).length:Nat):Int)),(4,.pointer<|some ⟨b2,0,none⟩),(3,.pointer<|some ⟨b1,0,none⟩),(0,.pointer<|some ⟨b,0,none⟩)]:Env) (vc 3 (.slice aa (Aw.Q).length ab) (Aw.Q)::e8 b2 [.bool false,e7 0,e7 0,.slice none 0 0,e7 0,e7 0,.slice none 0 0,.slice none 0 0,.slice none 0 0,e7 0,.slice none 0 0] 42::e8 b1 [.bool (Aw.fd),e7<|Aw.num,e7<|Aw.tm,.slice Aw.sa Aw.S.length Aw.sc,e7<|Aw.dn,e7<|Aw.dd,.slice Aw.pa Aw.P.length Aw.pc,.slice Aw.oa Aw.O.length Aw.oc,.slice Aw.na Aw.N.length Aw.nc,e7<|Aw.E,.slice aa (Aw.Q).length ab] 42::e8 b [lv,e7 a6] 65::I)
   refine Z ?_
   refine C3 kr ?_
   refine Ae 16 C (Ci (α:=Int) (xs:=Aw.Q) (e:=3) (new:=ak) ef C C C om oo am) ?_
   rintro _ _ ⟨rfl,rfl⟩
   refine C4 kr<|Z ?_
   refine Ge0 (A3 (cs:=[_,_,_,_,_,_,_,_,_,_,_]) (vs:=[_,_,_,_,_,_,_,_,_,_,_]) (cs':=[_,_,_,_,_,_,_,_,_,_,_]) ty42) ?_
   exact As<|Bf<|B0 C ty42 C mm C (vc 3 (.slice aa (Aw.Q).length ab) (List.set Aw.Q (aj).toNat (ak))::e8 b [lv,e7 a6] 65::I) Bb ⟨{Aw with qa:=aa,qc:=ab,Q:=List.set Aw.Q (aj).toNat (ak)},[vc 3 (.slice aa (Aw.Q).length ab) (List.set Aw.Q (aj).toNat (ak))],a6,(by show Value.agg _=AnV.val _;simp only [AnV.val,List.length_set]),⟨(hU _).s,(hU _).p,(hU _).o,(hU _).n,(by show Sl κ _ (.slice aa (List.set Aw.Q (aj).toNat (ak)).length ab) (List.set Aw.Q (aj).toNat (ak));rw [List.length_set];exact Em mm),hA.b⟩,ah,by omega,rfl⟩
  refine Ge0 (A3 (cs:=[_,_,_,_,_,_,_,_,_,_,_]) (vs:=[_]) (cs':=[_,_,_,_,_,_,_,_,_,_,_]) ef)<|Z ?_
  refine Ge0 (A3 (cs:=[_,_,_,_,_,_,_,_,_,_,_]) (vs:=[_,_,_,_,_,_,_,_,_,_,_]) (cs':=[_,_,_,_,_,_,_,_,_,_,_]) ty42) ?_
  exact As<|Bf<|B0 C ty42 C mm C (vc 3 (.slice aa (Aw.Q).length ab) (Aw.Q)::e8 b [lv,e7 i4] 65::I) Bb ⟨{Aw with E:=Aw.E+1,qa:=aa,qc:=ab},[vc 3 (.slice aa (Aw.Q).length ab) (Aw.Q)],i4,rfl,⟨(hU _).s,(hU _).p,(hU _).o,(hU _).n,Em mm,hA.b⟩,by show Aw.E+1<=(1000:Int);omega,by omega,rfl⟩
 refine Ge0 (A3 (cs:=[_,_,_,_,_,_,_,_,_,_,_]) (vs:=[_,_,_,_,_,_,_,_,_,_,_]) (cs':=[_,_,_,_,_,_,_,_,_,_,_]) ty42) ?_
 exact As<|Bf<|B0 C ty42 C mm C (e8 b [lv,e7 i4] 65::I) Bb ⟨Aw,[],i4,rfl,hU _,ah,by omega,rfl⟩
end Go.Sl
namespace Go.Sl
open Go.Proofs
set_option maxRecDepth 4000
end Go.Sl
namespace Go.Sl
open Go.Proofs
set_option maxRecDepth 4000
variable{κ:Ctx}{I:List Item}
attribute [local irreducible] W G V D A Runs Eff
abbrev ev45:Ev:=⟨1,1,0,1,1,0,1⟩
theorem hist_C:HistOk 2 1 0 0 [ev45]:=⟨⟨by decide,by decide,λj hj=>by
 obtain rfl:j=0:=by simp at hj;exact hj
 exact fitE_ok.1 dc,λj hj=>by
 obtain rfl:j=0:=by simp at hj;exact hj
 decide⟩,by decide⟩
theorem all_C:allE 1 0 0 [ev45]=[ev45]:=by unfold allE;rw [all_same];decide
theorem at_C:atG 1 0 0 [ev45] 2=[⟨0,1⟩]:=by unfold atG atK;rw [all_C];decide
theorem ask_C:askQ 2 1 0 0 [ev45] 1 0 0 2 [] 0 0=0:=by rw [askQ_ok hist_C];decide
theorem num_C{A:AnV}(h:AnsP 2 1 0 0 [ev45] 1 0 0 2 [] 0 0 A):A.num=1:=by
 obtain ⟨⟨_,a2,_⟩,_⟩:=(h.g dc).1.k1 rfl
 rw [at_C] at a2
 rw [a2]
 decide+kernel
section
variable {nd kd wd mo K node lv tq num den:Int}{es:List Ev}{S:List Int}{A B:AnV}
theorem ask_hist(e:askQ nd kd wd mo es K node lv tq S num den=0):HistOk nd kd wd mo es:=by
 by_cases h:slideE nd kd wd mo es=0
 ·exact hist_of h
 exact absurd (by unfold askQ at e;rw [if_pos h] at e;exact e) h
theorem ask_qv(e:askQ nd kd wd mo es K node lv tq S num den=0):QV nd K node lv tq S num den:=QV.of ((askQ_ok (ask_hist e)).symm.trans e)
theorem ask_bnd(hlen:es.length<=19)(M:nd<=7)(h:askQ nd kd wd mo es K node lv tq S num den=0->AnsP nd kd wd mo es K node lv tq S num den A)(hz:askQ nd kd wd mo es K node lv tq S num den≠0->A.zero):AnB A:=by
 by_cases e:askQ nd kd wd mo es K node lv tq S num den=0
 ·exact ans_bnd (ask_hist e) hlen M (ask_qv e)<|h e
 exact zero_bnd<|hz e
theorem chk_alike{c:Int}(h:ChkR nd kd wd mo es K node lv tq S num den B c)(e:askQ nd kd wd mo es K node lv tq S num den=0)(hc:c=0)(hA:AnsP nd kd wd mo es K node lv tq S num den A):alikeP A B:=by
 obtain ⟨W,M,⟨b1,b2,b3,b4,b5,b6⟩,ht⟩:=h.same e hc
 obtain ⟨a1,a2,a3,a4,a5,a6⟩:=hA.alike (ask_hist e) (ask_qv e).rng M
 exact ⟨a1.trans b1.symm,a2.trans b2.symm,a3.trans ht.symm,(cmpL_eq _ _).2 (((cmpL_eq _ _).1 a4).trans b3.symm),a5.trans<|by rw [b4,b5],a6.trans b6.symm⟩
end
theorem Awake45_ok(hT:TabRd κ I 0 tzCells):eu Tryz.prog κ 7 [] I (λr J=>r = .bool true/\I=J):=by
 refine Ce0 Tryz.func7 C C<|Z ?_
 refine Ge1 (B9 (α:=Ev) (cs:=[e7 1,e7 1,e7 0,e7 1,e7 1,e7 0,e7 1]) (xs:=[⟨1,1,0,1,1,0,1⟩]) Bc ty63 C C dc dc C kr C C) λao=>Z ?_
 refine Ge1 (Am ty31 C) λb2=>Ge1 (Am ty36 C) λb3=>Ge0 (Es3_3 ty31) ?_
 refine Ge0 (Fj ty36)<|Z ?_
 refine G.e (Ac c_ C C<|AskG_ok (nd:=2) (kd:=1) (wd:=0) (mo:=0) (es:=([⟨1,1,0,1,1,0,1⟩]:List Ev)) (K:=1) (node:=0) (lv:=0) (tq:=2) (num:=0) (den:=0) (S:=[]) A7 (Fl _) dc dc (λh=>absurd h dc)<|A8 hT Ah) ?_
 rintro _ _ ⟨_,_,⟨AV4,rfl,aa,ad,rfl⟩,rfl,rfl⟩
 refine Z ?_
 refine Ge1 (Am ty42 C) λb5=>Ge0 (A3 (cs:=[_,_,_,_,_,_,_,_,_,_,_]) (vs:=[_,_,_,_,_,_,_,_,_,_,_]) (cs':=[_,_,_,_,_,_,_,_,_,_,_]) ty42)<|Z ?_
 have ak:=num_C (aa ask_C)
 have M:=ask_bnd dc dc aa ad
 have aj:=M
 refine Z ?_
 refine Ge1 (Am ty42 C) λb6=>Ge0 (A3 (cs:=[_,_,_,_,_,_,_,_,_,_,_]) (vs:=[_,_,_,_,_,_,_,_,_,_,_]) (cs':=[_,_,_,_,_,_,_,_,_,_,_]) ty42)<|Z ?_
 refine Ge0 (A3 (cs:=[_,_,_,_,_,_,_,_,_,_,_]) (vs:=[_]) (cs':=[_,_,_,_,_,_,_,_,_,_,_]) ef)<|Z ?_
 refine A6 (d:=22) C (λah=>Z ?_)<|λah=>?_
 ·refine Dn (B7 C C C) (Ac c_ C C<|AudCheck_ok (nd:=2) (kd:=1) (wd:=0) (mo:=0) (es:=([⟨1,1,0,1,1,0,1⟩]:List Ev)) (K:=1) (node:=0) (lv:=0) (tq:=2) (num:=0) (den:=0) (S:=[]) (Aw:=AV4) A7 (Fl _) ⟨A7,A7,A7,A7,A7,(by have h9:=M.len;show (AV4.N).length+(AV4.O).length<=1000000;omega)⟩ dc dc (λh=>absurd h dc) (Int.le_trans aj.E.2 dc)<|A8 hT Ah) ?_
  rintro _ _ ⟨_,_,⟨ap,rfl,ai,rfl⟩,rfl,rfl⟩
  refine Z ?_
  refine A6 (d:=30) C (λae=>Z ?_)<|λae=>?_
  ·refine Dn (B7 C C C) (Ac c_ C C<|AudCheck_ok (nd:=2) (kd:=1) (wd:=0) (mo:=0) (es:=([⟨1,1,0,1,1,0,1⟩]:List Ev)) (K:=1) (node:=0) (lv:=0) (tq:=2) (num:=0) (den:=0) (S:=[]) (Aw:=(⟨AV4.fd,2,AV4.tm,AV4.sa,AV4.sc,AV4.S,AV4.dn,AV4.dd,AV4.pa,AV4.pc,AV4.P,AV4.oa,AV4.oc,AV4.O,AV4.na,AV4.nc,AV4.N,AV4.E,AV4.qa,AV4.qc,AV4.Q⟩:AnV)) A7 (Fl _) ⟨A7,A7,A7,A7,A7,(by have h9:=M.len;show (AV4.N).length+(AV4.O).length<=1000000;omega)⟩ dc dc (λh=>absurd h dc) (Int.le_trans aj.E.2 dc)<|A8 hT Ah) ?_
   rintro _ _ ⟨_,_,⟨an,rfl,ab,rfl⟩,rfl,rfl⟩
   refine Z ?_
   exact Ai C C I Ah ⟨by rw [decide_eq_true ((ab.two ask_C).resolve_left λh=>by obtain ⟨W,hW,h6,_⟩:=ab.same ask_C h;have h1:=num_C hW;have h2:(2:Int)=W.num:=h6.2.1;omega)],rfl⟩
  exact absurd (ai.acc ask_C<|aa ask_C) ae
 exact absurd ask_C ah
theorem AuditAccepts_walk{la:Option Addr}{ln lc:Nat}{ls:List Int}(hl:Sl κ I (.slice la ln lc) ls)(hT:TabRd κ I 0 tzCells):eu Tryz.prog κ 3 [.slice la ln lc] I (λr J=>r = .bool true/\I=J):=by
 refine Ce1 Tryz.func3 C C<|Z ?_
 refine Gc0 (Ac c_ C C Few_ok)<|Z ?_
 refine Ap C (λbu=>?_)<|λbu=>Z ?_
 ·refine Ar (G.e (Ac c_ C C<|Awake45_ok<|A8 hT Ah) ?_)
  rintro _ _ ⟨_,_,⟨rfl,rfl⟩,rfl,rfl⟩
  refine Z ?_
  exact Ai C C I (by first|exact Ah|exact FitW) ⟨rfl,rfl⟩
 refine G.e (Ac c_ C C New_ok) ?_
 rintro _ _ ⟨_,_,⟨a6,rfl,rfl⟩,rfl,rfl⟩
 have b3:(0:Int)<=0:=Int.le_refl _
 refine Z ?_
 refine G.e (Ac c_ C C<|Next_ok (by repeat (first|exact AtF.head _ _|apply AtF.tail)) (Au hl) om om) ?_
 rintro _ _ ⟨_,_,⟨x2,i3,rfl,b5,b2,rfl⟩,rfl,rfl⟩
 refine Z ?_
 refine G.e (Ac c_ C C<|MkEvents_at (by repeat (first|exact AtF.head _ _|apply AtF.tail)) (λ_=>Bm hl Ah) om  om om) ?_
 rintro _ _ ⟨_,_,⟨⟨ax,ay,aa,i7⟩,⟨⟨rfl,a4⟩,bk⟩,rfl⟩,rfl,rfl⟩
 have bk:0<=i7:=bk
 dsimp only at a4
 refine Gm C<|G.e (Ac c_ C C<|MkWindow_at (by repeat (first|exact AtF.head _ _|apply AtF.tail)) (λ_=>Bm hl Ah) om  ) ?_
 rintro _ _ ⟨_,_,⟨⟨aq,ar,ah,bq⟩,⟨rfl,bc⟩,rfl⟩,rfl,rfl⟩
 have bc:0<=bq:=bc
 refine Ge1 (Am ty31 C) λav=>Ga C<|Ge0 (Es3_3 ty31) ?_
 have a7:aa.length<=19:=by have h9:=a4.2;omega
 refine Z ?_
 refine Cn (σ:=Int×Int) (λs=>([(3,.pointer<|some ⟨a6,0,none⟩),(4,e7<|2+x2),(5,.slice ax aa.length ay),(6,.pointer<|some ⟨av,0,none⟩),(7,e7<|s.1)]:Env)) (λs=>e8 av [e7 aq,e7 ar,e7 ah] 31::vc 63 (.slice ax aa.length ay) (aa)::e8 a6 [.slice la ln lc,e7<|s.2] 65::I) (λs=>(0<=s.1)/\(0<=s.2)) (λs=>(3 - s.1).toNat) (0,bq) ⟨om,om⟩ (Ab C<|Ab C<|Ab C<|Ab C<|Ab Dg Bs) Bb ?_
 rintro ⟨kq,iq⟩ hp
 dsimp only at hp ⊢
 obtain ⟨b7,b6⟩:=hp
 refine A5<|Ar<|Gm C<|Gr (Ch C C)<|As<|Ap C (λbt=>?_)<|λbt=>Z ?_
 ·refine Bt (Ay<|A5<|Bk<|Ar<|Gm C<|Gm C<|G.e (Ac c_ C C<|MkQuery_at (by repeat (first|exact AtF.head _ _|apply AtF.tail)) (λ_=>Bm hl Ah) om  om) ?_)
  rintro _ _ ⟨_,_,⟨⟨ai,ak,aj,an,ae,ad,M,ao,ap,bj⟩,⟨⟨rfl,aw,a5,a8⟩,be⟩,rfl⟩,rfl,rfl⟩
  have be:0<=bj:=be
  dsimp only at aw
  dsimp only at a5
  dsimp only at a8
  refine Ge1 (Am ty36 C) λa0=>Ge0 (Fj ty36) ?_
  have bb:=aw
  refine As<|Ar<|Gm C<|Gm C<|Gl3 ty31 ?_
  refine Gl7 ty36 ?_
  refine G.e (Ac c_ C C<|AskG_ok (nd:=2+x2) (kd:=aq) (wd:=ar) (mo:=ah) (es:=aa) (K:=ai) (node:=ak) (lv:=aj) (tq:=an) (num:=ao) (den:=ap) (S:=M) A7 A7 a7 om bb<|A8 hT Ah) ?_
  rintro _ _ ⟨_,_,⟨AV24,rfl,az,ba,rfl⟩,rfl,rfl⟩
  refine Z ?_
  refine Ge1 (Am ty42 C) λa1=>Ge0 (A3 (cs:=[_,_,_,_,_,_,_,_,_,_,_]) (vs:=[_,_,_,_,_,_,_,_,_,_,_]) (cs':=[_,_,_,_,_,_,_,_,_,_,_]) ty42)<|Z ?_
  have ab:=ask_bnd a7 om az ba
  have bg:=ab
  refine Z ?_
  refine Ap C (λa3=>Z ?_)<|λa3=>Z ?_
  ·refine G.e (Ac c_ C C<|AudCheck_ok (nd:=2+x2) (kd:=aq) (wd:=ar) (mo:=ah) (es:=aa) (K:=ai) (node:=ak) (lv:=aj) (tq:=an) (num:=ao) (den:=ap) (S:=M) (Aw:=AV24) A7 A7 ⟨A7,A7,A7,A7,A7,(by have h9:=ab.len;show (AV24.N).length+(AV24.O).length<=1000000;omega)⟩ a7 om bb (by first|assumption|(have h9:=bg.E;omega))<|A8 hT Ah) ?_
   rintro _ _ ⟨_,_,⟨bz,rfl,bh,rfl⟩,rfl,rfl⟩
   refine Z ?_
   refine Ap C (λbp=>?_)<|λbp=>Z ?_
   ·exact absurd (bh.err a3) bp
   exact B5 ((kq+1),(bj))<|by dsimp only;exact ⟨om,om⟩
  refine G.e (Ac c_ C C<|Cv (J:=e8 a6 [.slice la ln lc,e7 bj] 65::e8 a1 [.bool (AV24.fd),e7<|AV24.num,e7<|AV24.tm,.slice AV24.sa AV24.S.length AV24.sc,e7<|AV24.dn,e7<|AV24.dd,.slice AV24.pa AV24.P.length AV24.pc,.slice AV24.oa AV24.O.length AV24.oc,.slice AV24.na AV24.N.length AV24.nc,e7<|AV24.E,.slice AV24.qa AV24.Q.length AV24.qc] 42::vc 3 (.slice AV24.sa AV24.S.length AV24.sc) (AV24.S)::vc 51 (.slice AV24.pa AV24.P.length AV24.pc) (AV24.P)::vc 3 (.slice AV24.oa AV24.O.length AV24.oc) (AV24.O)::vc 3 (.slice AV24.na AV24.N.length AV24.nc) (AV24.N)::vc 3 (.slice AV24.qa AV24.Q.length AV24.qc) (AV24.Q)::e8 a0 [e7 ai,e7 ak,e7 aj,e7 an,.slice ae M.length ad,e7 ao,e7 ap] 36::vc 3 (.slice ae M.length ad) (M)::e8 av [e7 aq,e7 ar,e7 ah] 31::vc 63 (.slice ax aa.length ay) (aa)::I) Bb<|Bent_ok (Au hl) om (Aw:=AV24) ⟨A7,A7,A7,A7,A7,(by have h9:=ab.len;show (AV24.N).length+(AV24.O).length<=1000000;omega)⟩ ab) ?_
  rintro _ _ ⟨_,_,⟨BV27,Y28,a9,rfl,au,br,bv,rfl⟩,rfl,rfl⟩
  refine G.fit (J:=e8 a6 [.slice la ln lc,e7 a9] 65::e8 a1 [.bool (AV24.fd),e7<|AV24.num,e7<|AV24.tm,.slice AV24.sa AV24.S.length AV24.sc,e7<|AV24.dn,e7<|AV24.dd,.slice AV24.pa AV24.P.length AV24.pc,.slice AV24.oa AV24.O.length AV24.oc,.slice AV24.na AV24.N.length AV24.nc,e7<|AV24.E,.slice AV24.qa AV24.Q.length AV24.qc] 42::vc 3 (.slice AV24.sa AV24.S.length AV24.sc) (AV24.S)::vc 51 (.slice AV24.pa AV24.P.length AV24.pc) (AV24.P)::vc 3 (.slice AV24.oa AV24.O.length AV24.oc) (AV24.O)::vc 3 (.slice AV24.na AV24.N.length AV24.nc) (AV24.N)::vc 3 (.slice AV24.qa AV24.Q.length AV24.qc) (AV24.Q)::e8 a0 [e7 ai,e7 ak,e7 aj,e7 an,.slice ae M.length ad,e7 ao,e7 ap] 36::vc 3 (.slice ae M.length ad) (M)::e8 av [e7 aq,e7 ar,e7 ah] 31::vc 63 (.slice ax aa.length ay) (aa)::(Y28++I)) (Et<|Fh (A:=Y28) (L:=[e8 a6 [.slice la ln lc,e7 a9] 65,e8 a1 [.bool (AV24.fd),e7<|AV24.num,e7<|AV24.tm,.slice AV24.sa AV24.S.length AV24.sc,e7<|AV24.dn,e7<|AV24.dd,.slice AV24.pa AV24.P.length AV24.pc,.slice AV24.oa AV24.O.length AV24.oc,.slice AV24.na AV24.N.length AV24.nc,e7<|AV24.E,.slice AV24.qa AV24.Q.length AV24.qc] 42,vc 3 (.slice AV24.sa AV24.S.length AV24.sc)<|AV24.S,vc 51 (.slice AV24.pa AV24.P.length AV24.pc)<|AV24.P,vc 3 (.slice AV24.oa AV24.O.length AV24.oc)<|AV24.O,vc 3 (.slice AV24.na AV24.N.length AV24.nc)<|AV24.N,vc 3 (.slice AV24.qa AV24.Q.length AV24.qc)<|AV24.Q,e8 a0 [e7 ai,e7 ak,e7 aj,e7 an,.slice ae M.length ad,e7 ao,e7 ap] 36,vc 3 (.slice ae M.length ad) M,e8 av [e7 aq,e7 ar,e7 ah] 31,vc 63 (.slice ax aa.length ay) aa]) (T:=I)) ?_
  refine Ge1 (Am ty42 C) λb4=>Ge0 (A3 (cs:=[_,_,_,_,_,_,_,_,_,_,_]) (vs:=[_,_,_,_,_,_,_,_,_,_,_]) (cs':=[_,_,_,_,_,_,_,_,_,_,_]) ty42)<|Z ?_
  refine G.e (Ac c_ C C<|AudCheck_ok (nd:=2+x2) (kd:=aq) (wd:=ar) (mo:=ah) (es:=aa) (K:=ai) (node:=ak) (lv:=aj) (tq:=an) (num:=ao) (den:=ap) (S:=M) (Aw:=AV24) A7 A7 ⟨A7,A7,A7,A7,A7,(by have h9:=ab.len;show (AV24.N).length+(AV24.O).length<=1000000;omega)⟩ a7 om bb (by first|assumption|(have h9:=bg.E;omega))<|A8 hT Ah) ?_
  rintro _ _ ⟨_,_,⟨bx,rfl,bf,rfl⟩,rfl,rfl⟩
  refine Z ?_
  refine A6 (d:=61) C (λbm=>?_)<|λbm=>Z ?_
  ·exact absurd (bf.acc (Classical.not_not.1 a3)<|az<|Classical.not_not.1 a3) bm
  refine Dn (B7 C C C) (Ac c_ C C<|AudCheck_ok (nd:=2+x2) (kd:=aq) (wd:=ar) (mo:=ah) (es:=aa) (K:=ai) (node:=ak) (lv:=aj) (tq:=an) (num:=ao) (den:=ap) (S:=M) (Aw:=BV27) A7 A7 (HdA.fit au<|Ak Bb<|Et (Fh (A:=Y28) (L:=[e8 a1 [.bool (AV24.fd),e7<|AV24.num,e7<|AV24.tm,.slice AV24.sa AV24.S.length AV24.sc,e7<|AV24.dn,e7<|AV24.dd,.slice AV24.pa AV24.P.length AV24.pc,.slice AV24.oa AV24.O.length AV24.oc,.slice AV24.na AV24.N.length AV24.nc,e7<|AV24.E,.slice AV24.qa AV24.Q.length AV24.qc] 42,vc 3 (.slice AV24.sa AV24.S.length AV24.sc)<|AV24.S,vc 51 (.slice AV24.pa AV24.P.length AV24.pc)<|AV24.P,vc 3 (.slice AV24.oa AV24.O.length AV24.oc)<|AV24.O,vc 3 (.slice AV24.na AV24.N.length AV24.nc)<|AV24.N,vc 3 (.slice AV24.qa AV24.Q.length AV24.qc)<|AV24.Q,e8 a0 [e7 ai,e7 ak,e7 aj,e7 an,.slice ae M.length ad,e7 ao,e7 ap] 36,vc 3 (.slice ae M.length ad) M,e8 av [e7 aq,e7 ar,e7 ah] 31,vc 63 (.slice ax aa.length ay) aa]) (T:=I)).symm) a7 om bb (by first|assumption|(have h9:=bg.E;omega))<|A8 hT Ah) ?_
  rintro _ _ ⟨_,_,⟨bw,rfl,bi,rfl⟩,rfl,rfl⟩
  refine Z ?_
  refine A6 (d:=69) C (λbn=>Z ?_)<|λbn=>Z ?_
  ·refine Dn (B7 C C C) (Ac c_ C C<|Alike_ok (A:=AV24) (B:=BV27) (HdA.s ⟨A7,A7,A7,A7,A7,(by have h9:=ab.len;show (AV24.N).length+(AV24.O).length<=1000000;omega)⟩) (HdA.p ⟨A7,A7,A7,A7,A7,(by have h9:=ab.len;show (AV24.N).length+(AV24.O).length<=1000000;omega)⟩) (HdA.s<|HdA.fit au<|Ak Bb<|Et (Fh (A:=Y28) (L:=[e8 a1 [.bool (AV24.fd),e7<|AV24.num,e7<|AV24.tm,.slice AV24.sa AV24.S.length AV24.sc,e7<|AV24.dn,e7<|AV24.dd,.slice AV24.pa AV24.P.length AV24.pc,.slice AV24.oa AV24.O.length AV24.oc,.slice AV24.na AV24.N.length AV24.nc,e7<|AV24.E,.slice AV24.qa AV24.Q.length AV24.qc] 42,vc 3 (.slice AV24.sa AV24.S.length AV24.sc)<|AV24.S,vc 51 (.slice AV24.pa AV24.P.length AV24.pc)<|AV24.P,vc 3 (.slice AV24.oa AV24.O.length AV24.oc)<|AV24.O,vc 3 (.slice AV24.na AV24.N.length AV24.nc)<|AV24.N,vc 3 (.slice AV24.qa AV24.Q.length AV24.qc)<|AV24.Q,e8 a0 [e7 ai,e7 ak,e7 aj,e7 an,.slice ae M.length ad,e7 ao,e7 ap] 36,vc 3 (.slice ae M.length ad) M,e8 av [e7 aq,e7 ar,e7 ah] 31,vc 63 (.slice ax aa.length ay) aa]) (T:=I)).symm)<|HdA.p<|HdA.fit au<|Ak Bb<|Et (Fh (A:=Y28) (L:=[e8 a1 [.bool (AV24.fd),e7<|AV24.num,e7<|AV24.tm,.slice AV24.sa AV24.S.length AV24.sc,e7<|AV24.dn,e7<|AV24.dd,.slice AV24.pa AV24.P.length AV24.pc,.slice AV24.oa AV24.O.length AV24.oc,.slice AV24.na AV24.N.length AV24.nc,e7<|AV24.E,.slice AV24.qa AV24.Q.length AV24.qc] 42,vc 3 (.slice AV24.sa AV24.S.length AV24.sc)<|AV24.S,vc 51 (.slice AV24.pa AV24.P.length AV24.pc)<|AV24.P,vc 3 (.slice AV24.oa AV24.O.length AV24.oc)<|AV24.O,vc 3 (.slice AV24.na AV24.N.length AV24.nc)<|AV24.N,vc 3 (.slice AV24.qa AV24.Q.length AV24.qc)<|AV24.Q,e8 a0 [e7 ai,e7 ak,e7 aj,e7 an,.slice ae M.length ad,e7 ao,e7 ap] 36,vc 3 (.slice ae M.length ad) M,e8 av [e7 aq,e7 ar,e7 ah] 31,vc 63 (.slice ax aa.length ay) aa]) (T:=I)).symm) ?_
   rintro _ _ ⟨_,_,⟨rfl,rfl⟩,rfl,rfl⟩
   refine Z ?_
   refine Ap C (λbo=>?_)<|λbo=>Z ?_
   ·exact absurd (chk_alike bi (Classical.not_not.1 a3) bn<|az<|Classical.not_not.1 a3) bo
   exact B5 ((kq+1),(a9))<|by dsimp only;exact ⟨om,om⟩
  exact B5 ((kq+1),(a9))<|by dsimp only;exact ⟨om,om⟩
 refine G.e (Ac c_ C C<|Awake45_ok<|A8 hT Ah) ?_
 rintro _ _ ⟨_,_,⟨rfl,rfl⟩,rfl,rfl⟩
 exact Ga C<|As<|Bf<|Ai C C I (by first|exact Ah|exact FitW) ⟨rfl,rfl⟩
end Go.Sl
namespace Go.Sl
open Go.ChangeShapes Go.WideShapes Go.ChangeAt Go.RowKit Go.Deep
variable{v:Value}{e:TypeId}{a:Addr}
section
variable {κ:Ctx}{w w':World}{I:List Item}
theorem old_cell(hs:Sep κ w' I)(hm:old w.heap.size w∈I){b o:Nat}{u:Value}(M:w.cell? ⟨b,o,none⟩=some u):w'.cell? ⟨b,o,none⟩=some u:=by
 have aa:∀k,k<w.heap.size->w'.heap[k]? = w.heap[k]? :=(hs.ok _ hm).1
 have hb:b<w.heap.size:=by
  refine Nat.not_le.1 λh=>?_
  simp [World.cell?,Array.getElem?_eq_none h] at M
 have:=aa b hb
 simp only [World.cell?,this] at M ⊢
 exact M
def SlW{α:Type}[Enc α](w:World)(v:Value)(xs:List α):Prop:=slOk w (Enc.sz α) v xs.length (cells xs)
theorem SlW.sl{α:Type}[Enc α]{xs:List α}(h:SlW w v xs)(M:old w.heap.size w∈I):Sl κ I v xs:=λw' hs=>by
 obtain ⟨a,cap,hv,h1,h2,h3,h4⟩:=h
 refine ⟨a,cap,hv,h1,h2,h3,λhc=>?_⟩
 obtain ⟨b,off,ha,hr⟩:=h4 hc
 exact ⟨b,off,ha,λj u hj=>old_cell hs M<|hr j u hj⟩
end
section
variable {P:Program}{w:World}{r:Reach}{b0:Nat}{t:TypeId}{H:Type}{enc:TypeId×Value->H}{base:Nat}{spare:Nat->Bool}{held:Bool}
theorem spot_none{len cap:Nat}(M:P.underlying t=some (.slice e))(h:Cell.okWide P w r b0 t (.slice (some a) len cap)):a.spot=none:=by
 simp only [Cell.okWide,Cell.ok,M] at h
 exact h.2.2.2.1
theorem InR_of{n:Int}(h:(Lit.int .i64 n).wf=true):InR n:=by
 simp only [Lit.wf,Bool.and_eq_true,decide_eq_true_eq] at h
 exact h
def Light(P:Program)(t:TypeId)(d:DataW H):Prop:=∀n∈d.weights P t,n<=reachBytes
theorem light_arg{M:List TypeId}{ds:List (DataW H)}(h:(DataW.weightsEach P M ds).all (· <= reachBytes)=true){j:Nat}{d:DataW H}(ht:M[j]? = some t)(hd:ds[j]? = some d):Light P t d:=λn hn=>by
 have:=List.all_eq_true.1 h _ (DataW.weights_mem_each ht hd n hn)
 simpa using this
theorem light_slice{es sp:List (DataW H)}(M:P.underlying t=some (.slice e))(h:Light P t (.slice es sp)):es.length*P.bytesOf e<=140737488351232:=by
 have h1:=h ((es.length+sp.length)*P.bytesOf e) (by simp [DataW.weights,M])
 have h2:es.length*P.bytesOf e<=(es.length+sp.length)*P.bytesOf e:=Nat.mul_le_mul_right _ (by omega)
 simp only [reachBytes] at h1
 omega
theorem addr_eta(h:a.spot=none):a=⟨a.block,a.off,none⟩:=by cases a;simp_all
theorem in_ints{fuel:Nat}{x:DataW H×List MemPlace}(ht:P.underlying t=some (.slice e))(he:P.underlying e=some (.int .i64))(hc:P.cellsOf e=1)
  (hv:Cell.okWide P w r b0 t v) (h:DataW.trod enc P w base spare held fuel t [v]=some x) (hw:Light P t x.1):∃(a:Option Addr) (c:Nat) (xs:List Int),v = .slice a xs.length c/\SlW w (.slice a xs.length c) xs/\(∀n∈xs,InR n)/\xs.length*P.bytesOf e<=140737488351232:=by
 rcases open_ints ht he hc h with ⟨M,_⟩|⟨a,l,c,zs,M,_,hl,hm,hz,hx,ab,ae⟩
 ·obtain rfl:v = .slice none 0 0:=by simpa using M
  exact ⟨none,0,[],rfl,⟨none,0,rfl,by simp [cells],Nat.le_refl _,by simp,λh=>by omega⟩,by simp,by simp⟩
 obtain rfl:v = .slice (some a) l c:=by simpa using M
 have ad:=spot_none ht hv
 have hlen:l<=zs.length:=by rw [hz];split<;>omega
 have aa:(zs.take l).length=l:=by rw [List.length_take];omega
 refine ⟨some a,c,zs.take l,by rw [aa],⟨some a,c,rfl,cells_length _,by rw [aa];exact hl,hm,λai=>⟨a.block,a.off,by rw [←addr_eta ad],λj u hj=>?_⟩⟩,λn hn=>InR_of (ae n (List.mem_of_mem_take hn)),by
  rw [hx] at hw
  have:=light_slice ht hw
  simpa [lits] using this⟩
 have ah:j<l:=by
  have:=(List.getElem?_eq_some_iff.1 hj).1
  rw [cells_length,aa] at this
  have e1:Enc.sz Int=1:=rfl
  rw [e1] at this;omega
 have h1:=cells_get (zs.take l) j 0 (by omega) (by decide)
 have e1:j*Enc.sz Int+0=j:=by show j*1+0=j;omega
 rw [e1] at h1
 rw [h1] at hj
 have h2:=ab j (by omega)
 rw [addr_eta ad,addr_add] at h2
 have h3:u=e7 (zs.getD j 0):=by
  have h4:some (e7<|(zs.take l)[j]'(by omega))=some u:=hj
  simp only [Option.some.injEq] at h4
  rw [←h4]
  simp [List.getD_eq_getElem?_getD,List.getElem?_eq_getElem (show j<zs.length by omega)]
 rw [h3];exact h2
theorem arg_cell{d:DataW H}{ps:List MemPlace}(ht:P.underlying t=some (.slice e))(M:Value.okWide P w r b0 t v)(h:DataW.Trod enc P w base spare held t v d ps):Cell.okWide P w r b0 t v/\∃fuel,DataW.trod enc P w base spare held fuel t [v]=some (d,ps):=by
 obtain ⟨a,len,cap,rfl⟩:=okWide_slice ht M
 simp only [Value.okWide,ht] at M
 obtain ⟨fuel,hf⟩:=h
 exact ⟨M,fuel,by simpa [Value.cells] using hf⟩
theorem joined_mk{P:Program}{f:FuncId}{M:Func}{s:ChangeSpec}{c:OpenClaim}(h1:(c.wf (OpenSpec.ofChange s))=true)(h2:(laidOutB P)=true)(h3:(mapsRowed P)=true)(h4:(M.params.all (P.readableRec ·))=true)(h5:(namedTie P c.named s.vars)=true)(h6:((c.stops==[]))=true)(h7:((P.stops==[]))=true)(h8:((c.knobs==[]))=true)(h9:((P.stopKnobs==[]))=true)(aw:((c.inPlace==P.inPlace f))=true)(a4:((c.unfollowed==P.unfollowed f))=true)(ai:((c.recurses==P.recurses f))=true)(av:((c.named==P.varsNamed f))=true)(au:((c.maps==(M.params.toList++s.plain.varTypes P).any (P.mapsRec ·)))=true)(an:((c.ifaces==(M.params.toList++s.plain.varTypes P).any (P.ifacesRec ·)))=true)(ad:((c.mapsOut==P.mapsAmong M.resultTypes.toList))=true)(ax:((c.loops==(M.params.toList++s.plain.varTypes P).any (P.loopsFrom ·)))=true)(ao:((c.wideKeys==(M.params.toList++s.plain.varTypes P++M.resultTypes.toList).any (P.wideKeysFrom ·)))=true)(az:(s.vars.all (P.varReadable ·))=true)(aj:(M.resultTypes.all (λt=>P.readableRec t&&decide (t<P.types.size)))=true)(ab:((c.ifacesOut==M.resultTypes.toList.any (P.ifacesRec ·)))=true)(ap:((c.loopsOut==M.resultTypes.toList.any (P.loopsFrom ·)))=true)(aq:((c.plainKeys==P.plainKeys))=true)(ah:(c.shortTexts.isNone)=true)(ae:(P.stopsHeard)=true)(ak:(P.mayEnter)=true)(ar:((c.lifted==P.liftsFinal))=true)(a3:((P.make==some c.make))=true)(ay:((c.kinds==(if c.domain.isEmpty then [] else M.params.toList.map λt=>match P.underlying t with |some (.int k)=>some k|_=>none)))=true)(aa:((c.pinned==c.pinnedBy))=true)(a1:((c.veiled==(M.params.toList++s.plain.varTypes P++M.resultTypes.toList).any (P.veiledRec ·)))=true)(a0:(c.veiledFits P M.params.toList (M.params.toList++s.plain.varTypes P++M.resultTypes.toList))=true):joinedFacts P f M s c=true:=by
 unfold joinedFacts
 exact (Bool.and_eq_true_iff.2 ⟨(Bool.and_eq_true_iff.2 ⟨(Bool.and_eq_true_iff.2 ⟨(Bool.and_eq_true_iff.2 ⟨(Bool.and_eq_true_iff.2 ⟨(Bool.and_eq_true_iff.2 ⟨(Bool.and_eq_true_iff.2 ⟨(Bool.and_eq_true_iff.2 ⟨(Bool.and_eq_true_iff.2 ⟨(Bool.and_eq_true_iff.2 ⟨(Bool.and_eq_true_iff.2 ⟨(Bool.and_eq_true_iff.2 ⟨(Bool.and_eq_true_iff.2 ⟨(Bool.and_eq_true_iff.2 ⟨(Bool.and_eq_true_iff.2 ⟨(Bool.and_eq_true_iff.2 ⟨(Bool.and_eq_true_iff.2 ⟨(Bool.and_eq_true_iff.2 ⟨(Bool.and_eq_true_iff.2 ⟨(Bool.and_eq_true_iff.2 ⟨(Bool.and_eq_true_iff.2 ⟨(Bool.and_eq_true_iff.2 ⟨(Bool.and_eq_true_iff.2 ⟨(Bool.and_eq_true_iff.2 ⟨(Bool.and_eq_true_iff.2 ⟨(Bool.and_eq_true_iff.2 ⟨(Bool.and_eq_true_iff.2 ⟨(Bool.and_eq_true_iff.2 ⟨(Bool.and_eq_true_iff.2 ⟨(Bool.and_eq_true_iff.2 ⟨(Bool.and_eq_true_iff.2 ⟨h1,h2⟩),h3⟩),h4⟩),h5⟩),h6⟩),h7⟩),h8⟩),h9⟩),aw⟩),a4⟩),ai⟩),av⟩),au⟩),an⟩),ad⟩),ax⟩),ao⟩),az⟩),aj⟩),ab⟩),ap⟩),aq⟩),ah⟩),ae⟩),ak⟩),ar⟩),a3⟩),ay⟩),aa⟩),a1⟩),a0⟩)
theorem calls_below{f:FuncId}{M:List Value}(h:eu P ⟨w.os,w.tape,w.output,w.drawn⟩ f M [old w.heap.size w] λr J=>r = .bool true/\[old w.heap.size w]=J) :
  Calls P f M.toArray w λe w'=>e = .returned (.bool true)/\Below w.heap.size w w':=
 (h w<|Sep.begin w).mono λe w' ⟨v,J,he,⟨hv,hJ⟩,hs⟩=>by
  subst hv hJ
  exact ⟨he,hs.below List.mem_cons_self⟩
end
end Go.Sl
