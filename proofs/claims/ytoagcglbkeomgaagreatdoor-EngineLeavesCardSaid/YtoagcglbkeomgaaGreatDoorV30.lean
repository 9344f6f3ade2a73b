/- A part of the proofs of statements of this seat: contracts of functions, and the plain laws that they lean on. No conditions. -/
import Derived.Test.YtoagcglbkeomgaaGreatDoorV29
set_option linter.unusedVariables false
set_option linter.unusedSimpArgs false
set_option linter.unusedSectionVars false
open Go.Proofs.Tryz (prog)
set_option maxHeartbeats 2000000
namespace Go.Sl
open Go.Proofs
set_option maxRecDepth 4000
variable{bd:Int}{wa:Option Addr}{wc:Nat}
variable {κ:Ctx}{I:List Item}
attribute [local irreducible] W G V D A j8 Eff
theorem fe8{bf:BfS}(hl:Sl κ I (.slice wa bf.ws.length wc) bf.ws)(hw:bf.ws.length<=4096):eu prog κ 112 [.agg #[e7 bd,e7 (bf.lt),e7 (bf.mr),.slice wa bf.ws.length wc]] I (λr J=>∃(a:Option Addr) (c:Nat),r = .agg #[e7 bd,e7 bf.lt,e7 bf.mr,.slice a bf.ws.length c]/\J=vk 54 a c bf.ws::I):=by
 refine Ce1 Tryz.func112 C C ?_
 refine Ak<|Ge1 (Au (cs:=[_,_,_,_]) C C C) λb1=>Ge1 (Aj J4 C) λb2=>Z ?_
 refine Ge2 (E7 (α:=Ev) (ys:=bf.ws) Ad s9 C C C (A4 hl) om dc C) λM aa=>?_
 refine Gf R1 C<|Ge0 (Bs (cs:=[_,_,_,_]) (vs:=[_]) (cs':=[_,_,_,_]) ap8)<|Z ?_
 refine Ge0 (C8 J4) ?_
 exact Ar<|B3<|Ek C J4 C mm C (vk 54 M aa (bf.ws)::I) Az ⟨M,aa,rfl,rfl⟩
theorem cy0{e:Ev}{bf:BfS}(hl:Sl κ I (.slice wa bf.ws.length wc) bf.ws)(hB:az5 bd bf)(hw:bf.ws.length<=4096)(he:z6 e=0)(ht:e.tm<=bf.mr):eu prog κ 67 [.agg #[e7 bd,e7 (bf.lt),e7 (bf.mr),.slice wa bf.ws.length wc],.agg (ez e).toArray] I (λr J=>∃(a:Option Addr) (c:Nat),r = .tuple #[.agg #[e7 bd,e7 bf.lt,e7 bf.mr,.slice a bf.ws.length c],.slice none 0 0,e7 10]/\I=J):=by
 have ah:=hB.bd
 have ai:=hB.lt
 have ae:=hB.mr
 refine Ce2 Tryz.func67 C C ?_
 refine Ak<|Ge1 (Au (cs:=[_,_,_,_]) C C C) λb1=>Ge1 (Au (cs:=[_,_,_,_,_,_,_]) C C C) λb2=>Ge1 (Aj J4 C) λb3=>Z ?_
 refine G.e (Ac c_ C C<|ax3 (bd:=bd) (bf:=bf) (A4 hl) hB om) ?_
 rintro _ _ ⟨_,_,⟨rfl,rfl⟩,rfl,rfl⟩
 refine Z ?_
 refine Gc0 (Ac c_ C C<|Z8 e)<|Z ?_
 refine Am C (λM=>?_)<|λM=>Z ?_
 ·exact absurd he M
 refine Am C (λad=>Z ?_)<|λad=>?_
 ·refine Gc2 (Ac c_ C C<|fe8 (bd:=bd) (bf:=bf) (A4 hl) om) λaa ab=>?_
  refine Ge0 (C8 J4)<|Z ?_
  exact Cu C J4 C C C mm C I Ah ⟨aa,ab,rfl,rfl⟩
 omega
theorem am0{bf:BfS}{e:Ev}{i:Nat}(h:M5 evC bf.ws e bf.ws.length=i):List.take i bf.ws++[⟨e.kd,e.tm,e.u,e.v,e.w,e.lb,e.sg⟩]++List.drop i bf.ws=K3 bf e:=bd5 h
theorem ta3{p:Prop}(h:p:=by first|omega|(simp only [By,Fp,Fx,E_,Fu];omega)):p:=h
theorem dp7{e:Ev}{bf:BfS}(hl:Sl κ I (.slice wa bf.ws.length wc) bf.ws)(hB:az5 bd bf)(hw:bf.ws.length<=4096)(he:z6 e=0)(ht:bf.mr<e.tm)(hT:0<=e.tm/\e.tm<=1048576)(bv:bf.ws.length<4096):eu prog κ 67 [.agg #[e7 bd,e7 (bf.lt),e7 (bf.mr),.slice wa bf.ws.length wc],.agg (ez e).toArray] I (λr J=>∃(a:Option Addr) (c:Nat) (a2:Option Addr) (c2:Nat),r = .tuple #[.agg #[e7 bd,e7 (bf.push bd e).lt,e7 (bf.push bd e).mr,.slice a (bf.push bd e).ws.length c],.slice a2 ((bf.out bd e)).length c2,e7 0]/\J=vk 54 a2 c2 ((bf.out bd e))::vk 54 a c (bf.push bd e).ws::I):=by
 have b5:=hB.bd
 have b9:=hB.lt
 have b7:=hB.mr
 refine Ce2 Tryz.func67 C C ?_
 refine Ak<|Ge1 (Au (cs:=[_,_,_,_]) C C C) λb1=>Ge1 (Au (cs:=[_,_,_,_,_,_,_]) C C C) λb2=>Ge1 (Aj J4 C) λb3=>Z ?_
 refine G.e (Ac c_ C C<|ax3 (bd:=bd) (bf:=bf) (A4 hl) hB om) ?_
 rintro _ _ ⟨_,_,⟨rfl,rfl⟩,rfl,rfl⟩
 refine Z ?_
 refine Gc0 (Ac c_ C C<|Z8 e)<|Z ?_
 refine Am C (λav=>?_)<|λav=>Z ?_
 ·exact absurd he av
 refine Am C (λa8=>?_)<|λa8=>Z ?_
 ·omega
 refine Am C (λa5=>?_)<|λa5=>Z ?_
 ·omega
 refine Dh (σ:=Nat) (λs=>[(8,e7 ((s:Nat):Int))]) (λ_=>[]) (λs=>(s<=bf.ws.length)/\(M5 evC bf.ws e bf.ws.length=M5 evC bf.ws e s)) (λs=>s) (bf.ws.length) ⟨om,rfl⟩ ?_
 rintro i hp
 obtain ⟨hi,hj⟩:=hp
 refine Ax<|Ax<|Ba mixed<|Ee 14<|Z ?_
 refine Dj (d:=42) C (λa9=>Z ?_)<|λa9=>?_
 ·refine Am C (λaa=>Z ?_) (λaa=>Z ?_)
  ·exact Bt ((i - 1)) ⟨om,(bm4 om aa hj)⟩
  refine Gr (j8.hi (α:=Ev) (xs:=bf.ws) (h:=i) Ad s9 C C om (A4 hl) om)<|Ge2 (E7 (α:=Ev) (ys:=List.take i bf.ws) Ad s9 C C C (Sl.take (A4 hl) om) ta3 dc C) λb6 bu=>?_
  refine Ga C<|Ar<|W.cut (σ:=(Option Addr)×Nat) (λs=>([(2,pt b1),(3,pt b2),(4,pt b3)]:Env)) (λs=>e8 b1 [e7 bd,e7<|bf.lt,e7<|bf.mr,.slice s.1 (K3 bf e).length s.2] 32::vk 54 s.1 s.2 (K3 bf e)::e8 b3 [e7 0,e7 0,e7 0,.slice none 0 0] 32::e8 b2 (ez e) 54::I) (λs=>True) ?_ ?_
  ·refine Ba mixed (Bx (e8 b3 [e7 0,e7 0,e7 0,.slice none 0 0] 32::e8 b2 (ez e) 54::I) 10<|Z ?_)
   refine C9 (rs:=[2,5]) kr C C<|Ej ?_<|Do ?_
   ·refine Se1 C (B2 (α:=Ev) (cs:=(ez e)) (xs:=[⟨e.kd,e.tm,e.u,e.v,e.w,e.lb,e.sg⟩]) Ad s9 C C dc dc C kr C C) λb4=>?_
    refine C9 (rs:=[3,5]) kr C C<|Ej ?_<|Do ?_
    ·refine Se2 C (Br (α:=Ev) (e:=54) (xs:=List.take i bf.ws) (ys:=([⟨e.kd,e.tm,e.u,e.v,e.w,e.lb,e.sg⟩]:List Ev)) Ad s9 C C C mm A5 ta3 dc C<|λ_ _=>am) λbw b8=>?_
     refine Ds1 5<|Sr C (Bd ap8) Az ?_
     refine Dr 7 C (Dn (α:=Ev) (xs:=bf.ws) (l:=i) Ad s9 C C om (A4 hl) om)<|Ds1 8<|Se2 C (Br (α:=Ev) (e:=54) (xs:=(List.take i bf.ws)++([⟨e.kd,e.tm,e.u,e.v,e.w,e.lb,e.sg⟩]:List Ev)) (ys:=List.drop i bf.ws) Ad s9 C C C mm (Er (A4 hl) om) ta3 dc C<|λ_ _=>am) λa4 au=>Z ?_
     refine Cg kr ?_
     refine Ae 10 C (Bs (cs:=[_,_,_,_]) (vs:=[_]) (cs':=[_,_,_,_]) ap8) ?_
     rintro _ _ ⟨rfl,rfl⟩
     refine Ch kr ?_
     have M:((List.take i bf.ws)++([⟨e.kd,e.tm,e.u,e.v,e.w,e.lb,e.sg⟩]:List Ev))++(List.drop i bf.ws)=K3 bf e:=am0 (M9 (by intro h;first|omega|exact aa) hj)
     exact Dm ((a4),(au)) trivial (hI:=by (try dsimp only);exact (by rw [←M];exact Az))
    refine Sr C (Bd ap8) Az ?_
    refine Dr 7 C (Dn (α:=Ev) (xs:=bf.ws) (l:=i) Ad s9 C C om (A4 hl) om)<|Ds1 3<|Se2 C (Br (α:=Ev) (e:=54) (xs:=List.take i bf.ws) (ys:=([⟨e.kd,e.tm,e.u,e.v,e.w,e.lb,e.sg⟩]:List Ev)) Ad s9 C C C mm A5 ta3 dc C<|λ_ _=>am) λbk be=>?_
    refine Ds1 8<|Se2 C (Br (α:=Ev) (e:=54) (xs:=(List.take i bf.ws)++([⟨e.kd,e.tm,e.u,e.v,e.w,e.lb,e.sg⟩]:List Ev)) (ys:=List.drop i bf.ws) Ad s9 C C C mm (Er (A4 hl) om) ta3 dc C<|λ_ _=>am) λaw a3=>Z ?_
    refine Cg kr ?_
    refine Ae 10 C (Bs (cs:=[_,_,_,_]) (vs:=[_]) (cs':=[_,_,_,_]) ap8) ?_
    rintro _ _ ⟨rfl,rfl⟩
    refine Ch kr ?_
    have M:((List.take i bf.ws)++([⟨e.kd,e.tm,e.u,e.v,e.w,e.lb,e.sg⟩]:List Ev))++(List.drop i bf.ws)=K3 bf e:=am0 (M9 (by intro h;first|omega|exact aa) hj)
    exact Dm ((aw),(a3)) trivial (hI:=by (try dsimp only);exact (by rw [←M];exact Az))
   refine Sr C (Bd ap8) Az ?_
   refine Dr 7 C (Dn (α:=Ev) (xs:=bf.ws) (l:=i) Ad s9 C C om (A4 hl) om)<|Ds1 2<|Se1 C (B2 (α:=Ev) (cs:=(ez e)) (xs:=[⟨e.kd,e.tm,e.u,e.v,e.w,e.lb,e.sg⟩]) Ad s9 C C dc dc C kr C C) λbc=>?_
   refine Ds1 3<|Se2 C (Br (α:=Ev) (e:=54) (xs:=List.take i bf.ws) (ys:=([⟨e.kd,e.tm,e.u,e.v,e.w,e.lb,e.sg⟩]:List Ev)) Ad s9 C C C mm A5 ta3 dc C<|λ_ _=>am) λbp bb=>?_
   refine Ds1 8<|Se2 C (Br (α:=Ev) (e:=54) (xs:=(List.take i bf.ws)++([⟨e.kd,e.tm,e.u,e.v,e.w,e.lb,e.sg⟩]:List Ev)) (ys:=List.drop i bf.ws) Ad s9 C C C mm (Er (A4 hl) om) ta3 dc C<|λ_ _=>am) λa0 ap=>Z ?_
   refine Cg kr ?_
   refine Ae 10 C (Bs (cs:=[_,_,_,_]) (vs:=[_]) (cs':=[_,_,_,_]) ap8) ?_
   rintro _ _ ⟨rfl,rfl⟩
   refine Ch kr ?_
   have M:((List.take i bf.ws)++([⟨e.kd,e.tm,e.u,e.v,e.w,e.lb,e.sg⟩]:List Ev))++(List.drop i bf.ws)=K3 bf e:=am0 (M9 (by intro h;first|omega|exact aa) hj)
   exact Dm ((a0),(ap)) trivial (hI:=by (try dsimp only);exact (by rw [←M];exact Az))
  rintro ⟨a7,a6⟩ hp
  refine Z ?_
  refine Ge0 (Bs (cs:=[_,_,_,_]) (vs:=[_]) (cs':=[_,_,_,_]) ef)<|Z ?_
  have ao:((if bf.lt<e.tm then e.tm else bf.lt) - bd) - 1=ah7 bd bf e:=by unfold ah7;rw [ao4]
  rw [ao]
  refine G.e (Ac c_ C C<|cq0 (bd:=bd) (lt:=if bf.lt<e.tm then e.tm else bf.lt) (mr:=bf.mr) (m:=(ah7 bd bf e)) A5<|by rw [ac0];omega) ?_
  rintro _ _ ⟨_,_,⟨ak,aj,ah,ab,rfl,rfl⟩,rfl,rfl⟩
  refine Z ?_
  refine Ge1 (Aj J4 C) λbt=>Ge0 (C8 J4)<|Z ?_
  refine Ge0 (C8 J4)<|Z ?_
  exact Cu C J4 C C C mm C (vk 54 ah ab ((bf.out bd e))::vk 54 ak aj (bf.push bd e).ws::I) Az ⟨ak,aj,ah,ab,(by rw [ao4];rfl),rfl⟩
 refine Dpo 3 C<|Z ?_
 refine Gr (j8.hi (α:=Ev) (xs:=bf.ws) (h:=i) Ad s9 C C om (A4 hl) om)<|Ge2 (E7 (α:=Ev) (ys:=List.take i bf.ws) Ad s9 C C C (Sl.take (A4 hl) om) ta3 dc C) λba bq=>?_
 refine Ga C<|Ar<|W.cut (σ:=(Option Addr)×Nat) (λs=>([(2,pt b1),(3,pt b2),(4,pt b3)]:Env)) (λs=>e8 b1 [e7 bd,e7<|bf.lt,e7<|bf.mr,.slice s.1 (K3 bf e).length s.2] 32::vk 54 s.1 s.2 (K3 bf e)::e8 b3 [e7 0,e7 0,e7 0,.slice none 0 0] 32::e8 b2 (ez e) 54::I) (λs=>True) ?_ ?_
 ·refine Ba mixed (Bx (e8 b3 [e7 0,e7 0,e7 0,.slice none 0 0] 32::e8 b2 (ez e) 54::I) 10<|Z ?_)
  refine C9 (rs:=[2,5]) kr C C<|Ej ?_<|Do ?_
  ·refine Se1 C (B2 (α:=Ev) (cs:=(ez e)) (xs:=[⟨e.kd,e.tm,e.u,e.v,e.w,e.lb,e.sg⟩]) Ad s9 C C dc dc C kr C C) λbo=>?_
   refine C9 (rs:=[3,5]) kr C C<|Ej ?_<|Do ?_
   ·refine Se2 C (Br (α:=Ev) (e:=54) (xs:=List.take i bf.ws) (ys:=([⟨e.kd,e.tm,e.u,e.v,e.w,e.lb,e.sg⟩]:List Ev)) Ad s9 C C C mm A5 ta3 dc C<|λ_ _=>am) λbr bi=>?_
    refine Ds1 5<|Sr C (Bd ap8) Az ?_
    refine Dr 7 C (Dn (α:=Ev) (xs:=bf.ws) (l:=i) Ad s9 C C om (A4 hl) om)<|Ds1 8<|Se2 C (Br (α:=Ev) (e:=54) (xs:=(List.take i bf.ws)++([⟨e.kd,e.tm,e.u,e.v,e.w,e.lb,e.sg⟩]:List Ev)) (ys:=List.drop i bf.ws) Ad s9 C C C mm (Er (A4 hl) om) ta3 dc C<|λ_ _=>am) λay a1=>Z ?_
    refine Cg kr ?_
    refine Ae 10 C (Bs (cs:=[_,_,_,_]) (vs:=[_]) (cs':=[_,_,_,_]) ap8) ?_
    rintro _ _ ⟨rfl,rfl⟩
    refine Ch kr ?_
    have M:((List.take i bf.ws)++([⟨e.kd,e.tm,e.u,e.v,e.w,e.lb,e.sg⟩]:List Ev))++(List.drop i bf.ws)=K3 bf e:=am0 (M9 (by intro h;first|omega|exact aa) hj)
    exact Dm ((ay),(a1)) trivial (hI:=by (try dsimp only);exact (by rw [←M];exact Az))
   refine Sr C (Bd ap8) Az ?_
   refine Dr 7 C (Dn (α:=Ev) (xs:=bf.ws) (l:=i) Ad s9 C C om (A4 hl) om)<|Ds1 3<|Se2 C (Br (α:=Ev) (e:=54) (xs:=List.take i bf.ws) (ys:=([⟨e.kd,e.tm,e.u,e.v,e.w,e.lb,e.sg⟩]:List Ev)) Ad s9 C C C mm A5 ta3 dc C<|λ_ _=>am) λbn bm=>?_
   refine Ds1 8<|Se2 C (Br (α:=Ev) (e:=54) (xs:=(List.take i bf.ws)++([⟨e.kd,e.tm,e.u,e.v,e.w,e.lb,e.sg⟩]:List Ev)) (ys:=List.drop i bf.ws) Ad s9 C C C mm (Er (A4 hl) om) ta3 dc C<|λ_ _=>am) λar aq=>Z ?_
   refine Cg kr ?_
   refine Ae 10 C (Bs (cs:=[_,_,_,_]) (vs:=[_]) (cs':=[_,_,_,_]) ap8) ?_
   rintro _ _ ⟨rfl,rfl⟩
   refine Ch kr ?_
   have M:((List.take i bf.ws)++([⟨e.kd,e.tm,e.u,e.v,e.w,e.lb,e.sg⟩]:List Ev))++(List.drop i bf.ws)=K3 bf e:=am0 (M9 (by intro h;first|omega|exact aa) hj)
   exact Dm ((ar),(aq)) trivial (hI:=by (try dsimp only);exact (by rw [←M];exact Az))
  refine Sr C (Bd ap8) Az ?_
  refine Dr 7 C (Dn (α:=Ev) (xs:=bf.ws) (l:=i) Ad s9 C C om (A4 hl) om)<|Ds1 2<|Se1 C (B2 (α:=Ev) (cs:=(ez e)) (xs:=[⟨e.kd,e.tm,e.u,e.v,e.w,e.lb,e.sg⟩]) Ad s9 C C dc dc C kr C C) λbj=>?_
  refine Ds1 3<|Se2 C (Br (α:=Ev) (e:=54) (xs:=List.take i bf.ws) (ys:=([⟨e.kd,e.tm,e.u,e.v,e.w,e.lb,e.sg⟩]:List Ev)) Ad s9 C C C mm A5 ta3 dc C<|λ_ _=>am) λbg bh=>?_
  refine Ds1 8<|Se2 C (Br (α:=Ev) (e:=54) (xs:=(List.take i bf.ws)++([⟨e.kd,e.tm,e.u,e.v,e.w,e.lb,e.sg⟩]:List Ev)) (ys:=List.drop i bf.ws) Ad s9 C C C mm (Er (A4 hl) om) ta3 dc C<|λ_ _=>am) λaz ax=>Z ?_
  refine Cg kr ?_
  refine Ae 10 C (Bs (cs:=[_,_,_,_]) (vs:=[_]) (cs':=[_,_,_,_]) ap8) ?_
  rintro _ _ ⟨rfl,rfl⟩
  refine Ch kr ?_
  have M:((List.take i bf.ws)++([⟨e.kd,e.tm,e.u,e.v,e.w,e.lb,e.sg⟩]:List Ev))++(List.drop i bf.ws)=K3 bf e:=am0 (M9 (by intro h;first|omega|exact aa) hj)
  exact Dm ((az),(ax)) trivial (hI:=by (try dsimp only);exact (by rw [←M];exact Az))
 rintro ⟨a7,a6⟩ hp
 refine Z ?_
 refine Ge0 (Bs (cs:=[_,_,_,_]) (vs:=[_]) (cs':=[_,_,_,_]) ef)<|Z ?_
 have ao:((if bf.lt<e.tm then e.tm else bf.lt) - bd) - 1=ah7 bd bf e:=by unfold ah7;rw [ao4]
 rw [ao]
 refine G.e (Ac c_ C C<|cq0 (bd:=bd) (lt:=if bf.lt<e.tm then e.tm else bf.lt) (mr:=bf.mr) (m:=(ah7 bd bf e)) A5<|by rw [ac0];omega) ?_
 rintro _ _ ⟨_,_,⟨ae,ad,an,ai,rfl,rfl⟩,rfl,rfl⟩
 refine Z ?_
 refine Ge1 (Aj J4 C) λca=>Ge0 (C8 J4)<|Z ?_
 refine Ge0 (C8 J4)<|Z ?_
 exact Cu C J4 C C C mm C (vk 54 an ai ((bf.out bd e))::vk 54 ae ad (bf.push bd e).ws::I) Az ⟨ae,ad,an,ai,(by rw [ao4];rfl),rfl⟩
theorem dp8(hb:0<=bd/\bd<=1048576):eu prog κ 66 [e7 bd] I (λr J=>r = .tuple #[.agg #[e7 bd,e7 (-1),e7 (-1),.slice none 0 0],e7 0]/\I=J):=by
 refine Ce1 Tryz.func66 C C ?_
 refine Ak<|Ge1 (Aj J4 C) λb1=>Z ?_
 refine A3 (d:=6) C (λg6=>?_)<|λg6=>Z ?_
 ·omega
 refine Am C (λM=>?_)<|λM=>Z ?_
 ·omega
 refine Ge0 (C8 J4) ?_
 exact Ga C<|Ar<|B3<|Cp C J4 C C mm C I Ah ⟨rfl,rfl⟩
theorem dq0{κ:Ctx}{I:List Item}{nd kd wd mo:Int}(T:List Item)(ai:1<=nd/\nd<=64)(hw:s7 kd wd mo=0)(hb:0<=bd/\bd<=1048576):eu prog κ 79 [e7 nd,e7 bd,.agg #[e7 kd,e7 wd,e7 mo]] I (λr J=>∃(v':KpV) (Y:List Item),r = .tuple #[.agg (kx kd wd mo bd nd ((⟨⟨-1, -1,[]⟩,[],0⟩:EnS)) v').toArray,e7 0]/\KpF κ (Y++T) nd (⟨⟨-1, -1,[]⟩,[],0⟩:EnS) v'/\J=Y++I):=by
 refine Ce3 Tryz.func79 C C ?_
 refine Ak<|Ge1 (Au (cs:=[_,_,_]) C C C) λb1=>Ge1 (Aj H2 C) λb2=>Z ?_
 refine A3 (d:=13) C (λah=>?_)<|λah=>Z ?_
 ·omega
 refine Am C (λae=>?_)<|λae=>Z ?_
 ·omega
 refine Gc0 (Ac c_ C C<|dp8 hb)<|Z ?_
 refine Ge1 (Aj J4 C) λb3=>Ge0 (C8 J4) ?_
 refine Ga C<|Ar<|A1 (S5 9 8 6 5 0)<|Ax<|Ak<|Gm C<|Gr (Cb C C)<|Ar<|Am C (λad=>?_)<|λad=>?_
 ·exact absurd ad dc
 refine Bc<|Ao<|Ax<|Ak<|Gl3 da5 ?_
 refine Gc0 (Ac c_ C C<|am7 kd wd mo) ?_
 refine Ga C<|Ar<|Ak<|Gm C<|Gr (Cb C C)<|Ar<|Am C (λab=>?_)<|λab=>?_
 ·exact absurd hw ab
 refine Bc<|Ao<|Ak<|Gl3 da5 ?_
 refine Gl4 J4 ?_
 refine Gm C<|Gr (Cl (cells:=[_,_]) V3 Tryz.underlying35 gf5 C C)<|Gr (Cl (cells:=[e7 kd,e7 wd,e7 mo,e7 bd,e7<|(-1),e7<|(-1),.slice none 0 0,e7 nd,.slice none 0 0,e7 0,.slice none 0 0,.slice none 0 0,e7 0,.slice none 0 0,.slice none 0 0,e7 0,.slice none 0 0,e7 0,.slice none 0 0,e7 0,.slice none 0 0,e7 0,e7 0,.slice none 0 0,e7 0]) H2 Et fx4 C kr)<|G.e (Ac c_ C C<|ax4 (nd:=nd) (S:=[]) (Sl.nil _) (fu9 om) om) ?_
 rintro _ _ ⟨_,_,⟨M,Y5,rfl,aa,rfl⟩,rfl,rfl⟩
 refine Dq (J:=e8 b3 [e7 bd,e7<|(-1),e7<|(-1),.slice none 0 0] 32::e8 b2 zk 47::e8 b1 [e7 kd,e7 wd,e7 mo] 29::(Y5++I)) (Cj<|C1 (A:=Y5) (L:=[e8 b3 [e7 bd,e7<|(-1),e7<|(-1),.slice none 0 0] 32,e8 b2 zk 47,e8 b1 [e7 kd,e7 wd,e7 mo] 29]) (T:=I)) ?_
 show G prog κ _ _ _ _ ([(38,.agg (ky kd wd mo bd (-1) (-1) none 0 0 nd none 0 0 (j5<|[]) M 0).toArray),(37,.agg #[e7 kd,e7 wd,e7 mo,e7 bd,e7<|(-1),e7<|(-1),.slice none 0 0,e7 nd,.slice none 0 0,e7 0,.slice none 0 0,.slice none 0 0,e7 0,.slice none 0 0,.slice none 0 0,e7 0,.slice none 0 0,e7 0,.slice none 0 0,e7 0,.slice none 0 0,e7 0,e7 0,.slice none 0 0,e7 0]),(36,.agg #[e7 nd,.slice none 0 0]),(35,e7 nd),(34,.agg #[e7 bd,e7<|(-1),e7<|(-1),.slice none 0 0]),(33,.agg #[e7 kd,e7 wd,e7 mo]),(30,.bool<|decide<|(s7 kd wd mo)≠0),(29,e7<|s7 kd wd mo),(10,e7<|s7 kd wd mo),(28,e7<|s7 kd wd mo),(27,.agg #[e7 kd,e7 wd,e7 mo]),(24,.bool<|decide<|0≠0),(23,e7 0),(9,e7 0),(8,pt b3),(6,pt b2),(5,pt b1),(0,e7 nd)]:Env) (e8 b3 [e7 bd,e7<|(-1),e7<|(-1),.slice none 0 0] 32::e8 b2 zk 47::e8 b1 [e7 kd,e7 wd,e7 mo] 29::(Y5++I))
 refine Ge0 (Eff.sq H2)<|Z ?_
 exact Cp C H2 C C mm C ((Y5++I)) Ah ⟨⟨⟨none,0⟩,⟨none,0⟩,M⟩,Y5,rfl,⟨Sl.nil _,Sl.nil _,PkR.fit aa<|C4<|Ho _ _⟩,rfl⟩
end Go.Sl
namespace Go.Sl
open Go.Proofs
set_option maxRecDepth 4000
variable{bd kd mo nd wd:Int}
variable {κ:Ctx}{I:List Item}
theorem fd2{k:EnS}{v:KpV}{pv:PkV}(M:KpF κ I nd k v)(hp:PkR κ I nd (j5 k.S) pv):eu prog κ 33 [.agg (kx kd wd mo bd nd k v).toArray,.agg (ky kd wd mo bd k.b.lt k.b.mr v.w.a k.b.ws.length v.w.c nd v.l.a k.S.length v.l.c (j5 k.S) pv k.tm).toArray] I λr J=>r = .bool true/\I=J:=
 cx6 (v2:=⟨v.w,v.l,pv⟩) M ⟨M.w,M.l,hp⟩
theorem bh8{k:EnS}{v:KpV}(hF:KpF κ I nd k v)(hK:EnV nd kd wd mo bd k)(ai:k.b.ws.length<=4096)(h1:1<=nd):eu prog κ 122 [.agg (kx kd wd mo bd nd k v).toArray] I (λr J=>r = .bool true/\I=J):=by
 have ao:=q9 (F1 hK.inv.val)
 have aj:=ao
 rw [G5] at aj
 have ap:=hK.tm
 refine Ce1 Tryz.func122 C C ?_
 refine Ak<|Ge1 (Au (cs:=[_,_,_,_,_,_,_,_,_,_,_,_,_,_,_,_,_,_,_,_,_,_,_,_,_]) C C C) λb1=>Ga C<|Ar<|Ax<|Ak<|Gf aw7 C<|Gl4 J4 ?_
 refine G.e (Ac c_ C C<|ax3 (bd:=bd) (bf:=k.b) (Bg hF.w<|B0 (κ:=κ)<|by repeat (first|exact hH|exact Bf _|apply Be|apply B4|apply Bn)) hK.buf ai) ?_
 rintro _ _ ⟨_,_,⟨rfl,rfl⟩,rfl,rfl⟩
 refine Gr (E3 C)<|Gm C<|e9 (Af bf7 C)<|e9 (Bm (vs:=[_,_,_]) da5) ?_
 refine Ds (Cn C C C) (Ac c_ C C<|am7 kd wd mo) ?_
 rintro _ _ ⟨_,_,⟨rfl,rfl⟩,rfl,rfl⟩
 refine e9 (Cb C C)<|Gr (Bo C C)<|Gm C<|A3 (d:=14) C (λad=>?_)<|λad=>?_
 ·exact absurd hK.win ad
 refine e9 (Af T4 C)<|e9 (Bm (vs:=[_,_]) V3) ?_
 refine Ds (Cn C C C) (Ac c_ C C<|Z7 (nd:=nd)<|Bg hF.l<|B0 (κ:=κ)<|by repeat (first|exact hH|exact Bf _|apply Be|apply B4|apply Bn)) ?_
 rintro _ _ ⟨_,_,⟨rfl,rfl⟩,rfl,rfl⟩
 refine e9 (Cb C C)<|Gr (Bo C C)<|Gm C<|A3 (d:=20) C (λab=>?_)<|λab=>?_
 ·exact absurd hK.inv.val ab
 refine e9 (Af bf3 C)<|e9 (Bd ef) ?_
 refine e9 (Bl C C)<|Gr (Bo C C)<|Gm C<|A3 (d:=25) C (λan=>?_)<|λan=>?_
 ·omega
 refine e9 (Af bf3 C)<|e9 (Bd ef) ?_
 refine e9 (Ed C C)<|Gr (Bo C C)<|Ar<|A1 (S2 29 1)<|Am C (λak=>?_)<|λak=>?_
 ·omega
 refine Bc<|Ao<|Ax<|Ak<|Ga C<|Ar<|A7<|B9 (σ:=Nat) (λs=>([(1,pt b1),(3,e7 ((s:Nat):Int))]:Env)) (λs=>e8 b1 (kx kd wd mo bd nd k v) 47::I) (λs=>(s<=k.S.length)) (λs=>k.S.length - s) 0 (show ((0:Nat)<=k.S.length) from om) (Aa C<|Aa Co Bb) (show Fit κ _ (e8 b1 (kx kd wd mo bd nd k v) 47::I) from Az) ?_
 rintro i hp
 have hi:=hp
 refine Ax<|Ak<|Gm C<|Gf T4 C<|Gf L6 C<|Gl ap3 ?_
 refine Gr (Bk A0 C)<|Gr (Bl C C)<|Ar<|Am C (λah=>?_)<|λah=>?_
 ·refine Bc (Ao<|Ax<|A7<|Ax<|Ba mixed<|Bx (e8 b1 (kx kd wd mo bd nd k v) 47::I) 10<|Dr 0 C (Af T4 C)<|Dr 1 C (Af L6 C)<|Dr 2 C (Bd ap3) ?_)
  refine Dr 3 C (Aq C)<|Dr 4 C (A2 (α:=Lk) (xs:=k.S) A0 J2 C C (Bg hF.l<|B0 (κ:=κ)<|by repeat (first|exact hH|exact Bf _|apply Be|apply B4|apply Bn)) om om)<|Dr 5 C (j8.fld (α:=Lk) (xs:=k.S) bs3 C (Bg hF.l<|B0 (κ:=κ)<|by repeat (first|exact hH|exact Bf _|apply Be|apply B4|apply Bn)) om)<|Dr 6 C (Fj (α:=Lk) (xs:=k.S) (u:=e7 ((e_ k.S i).tm)) ef C (Bg hF.l<|B0 (κ:=κ)<|by repeat (first|exact hH|exact Bf _|apply Be|apply B4|apply Bn)) om om C)<|Dr 7 C (Af bf3 C)<|Dr 8 C (Bd ef) ?_
  refine Dr 9 C (Ed C C)<|Dz<|Ao<|A1 (S3 47 1 3)<|Am C (λae=>?_)<|λae=>?_
  ·exact absurd (hK.inv.tm _<|Bp (xs:=k.S) (i:=(i:Int)) om om) om
  exact Bc<|Av<|Ao<|A6<|Gm C<|Gr (Rad C C)<|Ga C<|Bq<|Bt ((i+1)) om
 refine Ci<|Aw<|Aw<|Bi<|Ao<|Ax<|Ba mixed<|Bx (e8 b1 (kx kd wd mo bd nd k v) 47::I) 5<|Dr 0 C (j8.lj H2) ?_
 refine Dr 1 C (j8.lj H2) ?_
 refine Ds1 2<|Se C (Ac c_ C C<|ax4 (nd:=nd) (S:=k.S) (Bg hF.l<|B0 (κ:=κ)<|by repeat (first|exact hH|exact Bf _|apply Be|apply B4|apply Bn)) hK.inv.val om) ?_
 rintro _ _ ⟨_,_,⟨M,Y3,rfl,aa,rfl⟩,rfl,rfl⟩
 refine ⟨Ah,?_⟩
 refine D.fit (J:=e8 b1 (kx kd wd mo bd nd k v) 47::(Y3++I)) (Cj<|C1 (A:=Y3) (L:=[e8 b1 (kx kd wd mo bd nd k v) 47]) (T:=I)) ?_
 show D prog κ _ _ _ _ _ _ _ ([(50,.agg (ky kd wd mo bd k.b.lt k.b.mr v.w.a k.b.ws.length v.w.c nd v.l.a k.S.length v.l.c (j5 k.S) M k.tm).toArray),(49,.agg (kx kd wd mo bd nd k v).toArray),(48,.agg (kx kd wd mo bd nd k v).toArray),(35,.bool<|decide<|(i:Int)<((k.S.length:Nat):Int)),(34,e7 ((k.S.length:Nat):Int)),(33,.slice v.l.a k.S.length v.l.c),(32,.pointer<|some ⟨b1,8,none⟩),(31,.pointer<|some ⟨b1,7,none⟩),(30,e7<|(i:Int)),(1,pt b1),(3,e7<|(i:Int))]:Env) (e8 b1 (kx kd wd mo bd nd k v) 47::(Y3++I))
 refine Ds1 3<|Sc0 C (Ac c_ C C<|fd2 (k:=k) (v:=v) (pv:=M) (KpF.fit hF<|B0 (κ:=κ)<|by repeat (first|exact Bf _|apply Be|apply Bn))<|PkR.fit aa<|C4<|by repeat (first|exact Ho _ _|apply List.Sublist.cons)) ?_
 exact Dr 4 C (Bh C)<|Dz<|Ao<|B3<|Al C C I (B0 (κ:=κ)<|by repeat (first|exact Bf _|apply Be|apply Bn)) ⟨rfl,rfl⟩
end Go.Sl
namespace Go.Sl
open Go.Proofs
set_option maxRecDepth 4000
attribute [local irreducible] W G V D A j8 Eff
theorem bu0{κ:Ctx}{I:List Item}{nd:Int}{e:Ev}{la oa:Option Addr}{lc oc:Nat}{xs:List Lk}{o:List Ev}(hl:Sl κ I (.slice la xs.length lc) xs)(an:q7 nd xs=0)(ao:H7 nd e)(ar:xs.length<=1000000)(ho:o.length<=10000000):eu prog κ 169 [.agg #[e7 nd,.slice la xs.length lc],.slice oa o.length oc,.agg (ez e).toArray] (vk 54 oa oc o::I) (λr J=>∃(a:Option Addr) (c:Nat) (a2:Option Addr) (c2:Nat),r = .tuple #[.agg #[e7 nd,.slice a (ep xs e).length c],.slice a2 (o++[e]).length c2]/\J=vk 82 a c (ep xs e)::vk 54 a2 c2 (o++[e])::I):=by
 refine Ce3 Tryz.func169 C C ?_
 refine Ak<|Ge1 (Au (cs:=[_,_]) C C C) λb1=>Ge1 (Au (cs:=[_,_,_,_,_,_,_]) C C C) λb2=>Ge1 (Aj V3 C) λb3=>Z ?_
 refine G.e (Ac c_ C C<|ds5 (nd:=nd) (e:=e) (A4 hl) an ao ar) ?_
 rintro _ _ ⟨_,_,⟨⟨M,aa,aq,ap,au⟩,⟨rfl,ad⟩,rfl⟩,rfl,rfl⟩
 show G prog κ _ _ _ _ ([(11,.tuple #[.agg #[e7 nd,.slice M (ep xs e).length aa],.slice aq ap au,e7 0]),(10,.agg (ez e).toArray),(9,.agg #[e7 nd,.slice la xs.length lc]),(7,.slice none 0 0),(6,pt b3),(5,pt b2),(3,pt b1),(0,.agg #[e7 nd,.slice la xs.length lc]),(1,.slice oa o.length oc),(2,.agg (ez e).toArray)]:Env) (vk 82 M aa (ep xs e)::e8 b3 [e7 0,.slice none 0 0] 35::e8 b2 (ez e) 54::e8 b1 [e7 nd,.slice la xs.length lc] 35::vk 54 oa oc o::I)
 have ad:ap<=2*xs.length+1:=ad
 refine Z ?_
 refine Ge0 (Cs V3)<|Z ?_
 refine Ba mixed<|Bx (vk 82 M aa (ep xs e)::e8 b3 [e7 0,.slice none 0 0] 35::e8 b2 (ez e) 54::e8 b1 [e7 nd,.slice M (ep xs e).length aa] 35::I) 5<|Z ?_
 refine C9 (rs:=[1,2]) kr C C<|Ej ?_<|Do ?_
 ·refine Sr C (Aq C) Az ?_
  refine Ds1 2<|Sr C (Bm (vs:=[_,_,_,_,_,_,_]) s9) Az ?_
  refine Ds1 3<|Se1 C (B2 (α:=Ev) (cs:=(ez e)) (xs:=[⟨e.kd,e.tm,e.u,e.v,e.w,e.lb,e.sg⟩]) Ad s9 C C dc dc C kr C C) λax=>?_
  refine Ds1 4<|Se2 C (Br (α:=Ev) (e:=54) (xs:=o) (ys:=([⟨e.kd,e.tm,e.u,e.v,e.w,e.lb,e.sg⟩]:List Ev)) Ad s9 C C C mm A5 lcn dc C<|λ_ _=>am) λah ab=>?_
  refine Cg kr ?_
  refine Ae 5 C (Cs V3) ?_
  rintro _ _ ⟨rfl,rfl⟩
  refine Dg (i:=6) kr C (Ap C) C C (Bh C) ?_
  refine Ch kr ?_
  exact Ao<|B3<|Cp C V3 C C mm C (vk 82 M aa (ep xs e)::vk 54 ah ab (o++[e])::I) Az ⟨M,aa,ah,ab,rfl,rfl⟩
 refine Sr C (Bm (vs:=[_,_,_,_,_,_,_]) s9) Az ?_
 refine C9 (rs:=[1,3]) kr C C<|Ej ?_<|Do ?_
 ·refine Sr C (Aq C) Az ?_
  refine Ds1 3<|Se1 C (B2 (α:=Ev) (cs:=(ez e)) (xs:=[⟨e.kd,e.tm,e.u,e.v,e.w,e.lb,e.sg⟩]) Ad s9 C C dc dc C kr C C) λav=>?_
  refine Ds1 4<|Se2 C (Br (α:=Ev) (e:=54) (xs:=o) (ys:=([⟨e.kd,e.tm,e.u,e.v,e.w,e.lb,e.sg⟩]:List Ev)) Ad s9 C C C mm A5 lcn dc C<|λ_ _=>am) λae ai=>?_
  refine Cg kr ?_
  refine Ae 5 C (Cs V3) ?_
  rintro _ _ ⟨rfl,rfl⟩
  refine Dg (i:=6) kr C (Ap C) C C (Bh C) ?_
  refine Ch kr ?_
  exact Ao<|B3<|Cp C V3 C C mm C (vk 82 M aa (ep xs e)::vk 54 ae ai (o++[e])::I) Az ⟨M,aa,ae,ai,rfl,rfl⟩
 refine Se1 C (B2 (α:=Ev) (cs:=(ez e)) (xs:=[⟨e.kd,e.tm,e.u,e.v,e.w,e.lb,e.sg⟩]) Ad s9 C C dc dc C kr C C) λaw=>?_
 refine Ds1 1<|Sr C (Aq C) Az ?_
 refine Ds1 4<|Se2 C (Br (α:=Ev) (e:=54) (xs:=o) (ys:=([⟨e.kd,e.tm,e.u,e.v,e.w,e.lb,e.sg⟩]:List Ev)) Ad s9 C C C mm A5 lcn dc C<|λ_ _=>am) λak aj=>?_
 refine Cg kr ?_
 refine Ae 5 C (Cs V3) ?_
 rintro _ _ ⟨rfl,rfl⟩
 refine Dg (i:=6) kr C (Ap C) C C (Bh C) ?_
 refine Ch kr ?_
 exact Ao<|B3<|Cp C V3 C C mm C (vk 82 M aa (ep xs e)::vk 54 ak aj (o++[e])::I) Az ⟨M,aa,ak,aj,rfl,rfl⟩
end Go.Sl
namespace Go.Sl
open Go.Proofs
set_option maxRecDepth 4000
variable{t wd:Int}{l:List Lk}{k:Nat}
def as9(wd t:Int)(l:List Lk):List Ev:=(l.filter λx=>decide (x.tm+wd=t)).map (L9 t)
theorem bz3(h:k<l.length)(M:(e_ l k).tm+wd=t):as9 wd t (l.take (k+1))=as9 wd t (l.take k)++[L9 t (e_ l k)]:=by
 unfold as9
 rw [Ca l k h,Gj,Hr]
 congr 1
 simp [M]
theorem co8(h:k<l.length)(M:¬(e_ l k).tm+wd=t):as9 wd t (l.take (k+1))=as9 wd t (l.take k):=by
 unfold as9
 rw [Ca l k h,Gj,Hr]
 simp [M]
theorem cu9{kd mo:Int}(hk:kd=2)(M:∀x∈l,t<=x.tm+wd):as9 wd t l=s3 kd wd mo t l:=by
 unfold as9 s3
 congr 1
 refine Ht λx hx=>?_
 have:=M x hx
 unfold inW
 rw [B_ hk]
 rw [Ka]
 simp only [Gn,J_,Kt]
 omega
theorem cu8(wd t:Int)(l M:List Lk)(k:Nat)(h:k<l.length)(ht:(e_ l k).tm+wd=t):ep ((as9 wd t (l.take k)).foldl ep M) (L9 t (e_ l k))=(as9 wd t (l.take (k+1))).foldl ep M:=by
 rw [bz3 h ht,Hd];rfl
theorem dm0{nd:Int}{x:Lk}(h:q7 nd l=0)(hx:x∈l)(ht:0<=t/\t<=1048576):H7 nd (L9 t x):=by
 have h1:=bb9 h x hx
 have h2:=(Q4 h).1
 exact ⟨by show (1:Int)<=2/\(2:Int)<=3;omega,ht,⟨by show 0<=x.u/\x.u<64;omega,λM=>absurd M (by show ¬(2:Int)=3;decide),λ_=>by show (0<=x.v/\x.v<64)/\x.u≠x.v;omega⟩,
  λM=>absurd M (by show ¬(2:Int)=1;decide),by show x.u<nd/\x.v<nd;omega,λ_=>⟨rfl,rfl,rfl⟩⟩
end Go.Sl
