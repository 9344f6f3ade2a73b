/- A part of the proofs of statements of this seat: contracts of functions, and the plain laws that they lean on. No conditions. -/
import Derived.Test.YtoagcglbkeomgaaGreatDoorA29
set_option linter.unusedVariables false
set_option linter.unusedSimpArgs false
set_option linter.unusedSectionVars false
open Go.Proofs.Tryz (prog)
set_option maxHeartbeats 2000000
namespace Go.Sl
open Go.Proofs
set_option maxRecDepth 4000
variable{bd:Int}{wa:Option Addr}{wc:Nat}
variable {κ:Ctx}{I:List Item}
attribute [local irreducible] W G V D A j8 Eff
theorem fd7{bf:BfS}(hl:Sl κ I (.slice wa bf.ws.length wc) bf.ws)(hw:bf.ws.length<=4096):eu prog κ 112 [.agg #[e7 bd,e7 (bf.lt),e7 (bf.mr),.slice wa bf.ws.length wc]] I (λr J=>∃(a:Option Addr) (c:Nat),r = .agg #[e7 bd,e7 bf.lt,e7 bf.mr,.slice a bf.ws.length c]/\J=vk 54 a c bf.ws::I):=by
 refine Ce1 Tryz.func112 C C ?_
 refine Al<|Ge1 (Av (cs:=[_,_,_,_]) C C C) λb1=>Ge1 (Aj J6 C) λb2=>Z ?_
 refine Ge2 (Fb (α:=Ev) (ys:=bf.ws) Ad z6 C C C (A3 hl) om dc C) λaa M=>?_
 refine Gf R2 C<|Ge0 (Bt (cs:=[_,_,_,_]) (vs:=[_]) (cs':=[_,_,_,_]) ap1)<|Z ?_
 refine Ge0 (C9 J6) ?_
 exact Ar<|B3<|Ej C J6 C mm C (vk 54 aa M (bf.ws)::I) Az ⟨aa,M,rfl,rfl⟩
theorem cx6{e:Ev}{bf:BfS}(hl:Sl κ I (.slice wa bf.ws.length wc) bf.ws)(hB:az2 bd bf)(hw:bf.ws.length<=4096)(he:z7 e=0)(ht:e.tm<=bf.mr):eu prog κ 67 [.agg #[e7 bd,e7 (bf.lt),e7 (bf.mr),.slice wa bf.ws.length wc],.agg (ez e).toArray] I (λr J=>∃(a:Option Addr) (c:Nat),r = .tuple #[.agg #[e7 bd,e7 bf.lt,e7 bf.mr,.slice a bf.ws.length c],.slice none 0 0,e7 10]/\I=J):=by
 have ai:=hB.bd
 have ah:=hB.lt
 have ae:=hB.mr
 refine Ce2 Tryz.func67 C C ?_
 refine Al<|Ge1 (Av (cs:=[_,_,_,_]) C C C) λb1=>Ge1 (Av (cs:=[_,_,_,_,_,_,_]) C C C) λb2=>Ge1 (Aj J6 C) λb3=>Z ?_
 refine G.e (Ab c_ C C<|ax1 (bd:=bd) (bf:=bf) (A3 hl) hB om) ?_
 rintro _ _ ⟨_,_,⟨rfl,rfl⟩,rfl,rfl⟩
 refine Z ?_
 refine Gc0 (Ab c_ C C<|Z5 e)<|Z ?_
 refine Ao C (λM=>?_)<|λM=>Z ?_
 ·exact absurd he M
 refine Ao C (λad=>Z ?_)<|λad=>?_
 ·refine Gc2 (Ab c_ C C<|fd7 (bd:=bd) (bf:=bf) (A3 hl) om) λab aa=>?_
  refine Ge0 (C9 J6)<|Z ?_
  exact Cs C J6 C C C mm C I Ah ⟨ab,aa,rfl,rfl⟩
 omega
theorem ak5{bf:BfS}{e:Ev}{i:Nat}(h:M5 evC bf.ws e bf.ws.length=i):List.take i bf.ws++[⟨e.kd,e.tm,e.u,e.v,e.w,e.lb,e.sg⟩]++List.drop i bf.ws=K5 bf e:=bd2 h
theorem ta3{p:Prop}(h:p:=by first|omega|(simp only [By,Ft,Gb,E_,Fy];omega)):p:=h
theorem do8{e:Ev}{bf:BfS}(hl:Sl κ I (.slice wa bf.ws.length wc) bf.ws)(hB:az2 bd bf)(hw:bf.ws.length<=4096)(he:z7 e=0)(ht:bf.mr<e.tm)(hT:0<=e.tm/\e.tm<=1048576)(bt:bf.ws.length<4096):eu prog κ 67 [.agg #[e7 bd,e7 (bf.lt),e7 (bf.mr),.slice wa bf.ws.length wc],.agg (ez e).toArray] I (λr J=>∃(a:Option Addr) (c:Nat) (a2:Option Addr) (c2:Nat),r = .tuple #[.agg #[e7 bd,e7 (bf.push bd e).lt,e7 (bf.push bd e).mr,.slice a (bf.push bd e).ws.length c],.slice a2 ((bf.out bd e)).length c2,e7 0]/\J=vk 54 a2 c2 ((bf.out bd e))::vk 54 a c (bf.push bd e).ws::I):=by
 have bw:=hB.bd
 have bv:=hB.lt
 have ca:=hB.mr
 refine Ce2 Tryz.func67 C C ?_
 refine Al<|Ge1 (Av (cs:=[_,_,_,_]) C C C) λb1=>Ge1 (Av (cs:=[_,_,_,_,_,_,_]) C C C) λb2=>Ge1 (Aj J6 C) λb3=>Z ?_
 refine G.e (Ab c_ C C<|ax1 (bd:=bd) (bf:=bf) (A3 hl) hB om) ?_
 rintro _ _ ⟨_,_,⟨rfl,rfl⟩,rfl,rfl⟩
 refine Z ?_
 refine Gc0 (Ab c_ C C<|Z5 e)<|Z ?_
 refine Ao C (λax=>?_)<|λax=>Z ?_
 ·exact absurd he ax
 refine Ao C (λa8=>?_)<|λa8=>Z ?_
 ·omega
 refine Ao C (λa7=>?_)<|λa7=>Z ?_
 ·omega
 refine Dj (σ:=Nat) (λs=>[(8,e7 ((s:Nat):Int))]) (λ_=>[]) (λs=>(s<=bf.ws.length)/\(M5 evC bf.ws e bf.ws.length=M5 evC bf.ws e s)) (λs=>s) (bf.ws.length) ⟨om,rfl⟩ ?_
 rintro i hp
 obtain ⟨hi,hj⟩:=hp
 refine Ax<|Ax<|A8 mixed<|Ee 14<|Z ?_
 refine Df (d:=42) C (λa5=>Z ?_)<|λa5=>?_
 ·refine Ao C (λaa=>Z ?_) (λaa=>Z ?_)
  ·exact Bu ((i - 1)) ⟨om,(bk7 om aa hj)⟩
  refine Gr (j8.hi (α:=Ev) (xs:=bf.ws) (h:=i) Ad z6 C C om (A3 hl) om)<|Ge2 (Fb (α:=Ev) (ys:=List.take i bf.ws) Ad z6 C C C (Sl.take (A3 hl) om) ta3 dc C) λb8 b7=>?_
  refine Ga C<|Ar<|Fj (σ:=(Option Addr)×Nat) (λs=>([(2,pt b1),(3,pt b2),(4,pt b3)]:Env)) (λs=>e8 b1 [e7 bd,e7<|bf.lt,e7<|bf.mr,.slice s.1 (K5 bf e).length s.2] 32::vk 54 s.1 s.2 (K5 bf e)::e8 b3 [e7 0,e7 0,e7 0,.slice none 0 0] 32::e8 b2 (ez e) 54::I) (λs=>True) ?_ ?_
  ·refine A8 mixed (Bv (e8 b3 [e7 0,e7 0,e7 0,.slice none 0 0] 32::e8 b2 (ez e) 54::I) 10<|Z ?_)
   refine C5 (rs:=[2,5]) kr C C<|D5 ?_<|Dl ?_
   ·refine Se1 C (B1 (α:=Ev) (cs:=(ez e)) (xs:=[⟨e.kd,e.tm,e.u,e.v,e.w,e.lb,e.sg⟩]) Ad z6 C C dc dc C kr C C) λb4=>?_
    refine C5 (rs:=[3,5]) kr C C<|D5 ?_<|Dl ?_
    ·refine Se2 C (Bs (α:=Ev) (e:=54) (xs:=List.take i bf.ws) (ys:=([⟨e.kd,e.tm,e.u,e.v,e.w,e.lb,e.sg⟩]:List Ev)) Ad z6 C C C mm A5 ta3 dc C<|λ_ _=>am) λb6 bu=>?_
     refine Ds1 5<|Sr C (Be ap1) Az ?_
     refine Dr 7 C (Do (α:=Ev) (xs:=bf.ws) (l:=i) Ad z6 C C om (A3 hl) om)<|Ds1 8<|Se2 C (Bs (α:=Ev) (e:=54) (xs:=(List.take i bf.ws)++([⟨e.kd,e.tm,e.u,e.v,e.w,e.lb,e.sg⟩]:List Ev)) (ys:=List.drop i bf.ws) Ad z6 C C C mm (Ep (A3 hl) om) ta3 dc C<|λ_ _=>am) λa6 a3=>Z ?_
     refine Ch kr ?_
     refine Ae 10 C (Bt (cs:=[_,_,_,_]) (vs:=[_]) (cs':=[_,_,_,_]) ap1) ?_
     rintro _ _ ⟨rfl,rfl⟩
     refine Ci kr ?_
     have M:((List.take i bf.ws)++([⟨e.kd,e.tm,e.u,e.v,e.w,e.lb,e.sg⟩]:List Ev))++(List.drop i bf.ws)=K5 bf e:=ak5 (M9 (by intro h;first|omega|exact aa) hj)
     exact Dk ((a6),(a3)) trivial (hI:=by (try dsimp only);exact (by rw [←M];exact Az))
    refine Sr C (Be ap1) Az ?_
    refine Dr 7 C (Do (α:=Ev) (xs:=bf.ws) (l:=i) Ad z6 C C om (A3 hl) om)<|Ds1 3<|Se2 C (Bs (α:=Ev) (e:=54) (xs:=List.take i bf.ws) (ys:=([⟨e.kd,e.tm,e.u,e.v,e.w,e.lb,e.sg⟩]:List Ev)) Ad z6 C C C mm A5 ta3 dc C<|λ_ _=>am) λbk bc=>?_
    refine Ds1 8<|Se2 C (Bs (α:=Ev) (e:=54) (xs:=(List.take i bf.ws)++([⟨e.kd,e.tm,e.u,e.v,e.w,e.lb,e.sg⟩]:List Ev)) (ys:=List.drop i bf.ws) Ad z6 C C C mm (Ep (A3 hl) om) ta3 dc C<|λ_ _=>am) λap av=>Z ?_
    refine Ch kr ?_
    refine Ae 10 C (Bt (cs:=[_,_,_,_]) (vs:=[_]) (cs':=[_,_,_,_]) ap1) ?_
    rintro _ _ ⟨rfl,rfl⟩
    refine Ci kr ?_
    have M:((List.take i bf.ws)++([⟨e.kd,e.tm,e.u,e.v,e.w,e.lb,e.sg⟩]:List Ev))++(List.drop i bf.ws)=K5 bf e:=ak5 (M9 (by intro h;first|omega|exact aa) hj)
    exact Dk ((ap),(av)) trivial (hI:=by (try dsimp only);exact (by rw [←M];exact Az))
   refine Sr C (Be ap1) Az ?_
   refine Dr 7 C (Do (α:=Ev) (xs:=bf.ws) (l:=i) Ad z6 C C om (A3 hl) om)<|Ds1 2<|Se1 C (B1 (α:=Ev) (cs:=(ez e)) (xs:=[⟨e.kd,e.tm,e.u,e.v,e.w,e.lb,e.sg⟩]) Ad z6 C C dc dc C kr C C) λbn=>?_
   refine Ds1 3<|Se2 C (Bs (α:=Ev) (e:=54) (xs:=List.take i bf.ws) (ys:=([⟨e.kd,e.tm,e.u,e.v,e.w,e.lb,e.sg⟩]:List Ev)) Ad z6 C C C mm A5 ta3 dc C<|λ_ _=>am) λbb ba=>?_
   refine Ds1 8<|Se2 C (Bs (α:=Ev) (e:=54) (xs:=(List.take i bf.ws)++([⟨e.kd,e.tm,e.u,e.v,e.w,e.lb,e.sg⟩]:List Ev)) (ys:=List.drop i bf.ws) Ad z6 C C C mm (Ep (A3 hl) om) ta3 dc C<|λ_ _=>am) λay a0=>Z ?_
   refine Ch kr ?_
   refine Ae 10 C (Bt (cs:=[_,_,_,_]) (vs:=[_]) (cs':=[_,_,_,_]) ap1) ?_
   rintro _ _ ⟨rfl,rfl⟩
   refine Ci kr ?_
   have M:((List.take i bf.ws)++([⟨e.kd,e.tm,e.u,e.v,e.w,e.lb,e.sg⟩]:List Ev))++(List.drop i bf.ws)=K5 bf e:=ak5 (M9 (by intro h;first|omega|exact aa) hj)
   exact Dk ((ay),(a0)) trivial (hI:=by (try dsimp only);exact (by rw [←M];exact Az))
  rintro ⟨a9,a4⟩ hp
  refine Z ?_
  refine Ge0 (Bt (cs:=[_,_,_,_]) (vs:=[_]) (cs':=[_,_,_,_]) ef)<|Z ?_
  have ao:((if bf.lt<e.tm then e.tm else bf.lt) - bd) - 1=ah2 bd bf e:=by unfold ah2;rw [an9]
  rw [ao]
  refine G.e (Ab c_ C C<|cp9 (bd:=bd) (lt:=if bf.lt<e.tm then e.tm else bf.lt) (mr:=bf.mr) (m:=(ah2 bd bf e)) A5<|by rw [ab8];omega) ?_
  rintro _ _ ⟨_,_,⟨aj,ab,ad,ah,rfl,rfl⟩,rfl,rfl⟩
  refine Z ?_
  refine Ge1 (Aj J6 C) λb5=>Ge0 (C9 J6)<|Z ?_
  refine Ge0 (C9 J6)<|Z ?_
  exact Cs C J6 C C C mm C (vk 54 ad ah ((bf.out bd e))::vk 54 aj ab (bf.push bd e).ws::I) Az ⟨aj,ab,ad,ah,(by rw [an9];rfl),rfl⟩
 refine Dpo 3 C<|Z ?_
 refine Gr (j8.hi (α:=Ev) (xs:=bf.ws) (h:=i) Ad z6 C C om (A3 hl) om)<|Ge2 (Fb (α:=Ev) (ys:=List.take i bf.ws) Ad z6 C C C (Sl.take (A3 hl) om) ta3 dc C) λbm br=>?_
 refine Ga C<|Ar<|Fj (σ:=(Option Addr)×Nat) (λs=>([(2,pt b1),(3,pt b2),(4,pt b3)]:Env)) (λs=>e8 b1 [e7 bd,e7<|bf.lt,e7<|bf.mr,.slice s.1 (K5 bf e).length s.2] 32::vk 54 s.1 s.2 (K5 bf e)::e8 b3 [e7 0,e7 0,e7 0,.slice none 0 0] 32::e8 b2 (ez e) 54::I) (λs=>True) ?_ ?_
 ·refine A8 mixed (Bv (e8 b3 [e7 0,e7 0,e7 0,.slice none 0 0] 32::e8 b2 (ez e) 54::I) 10<|Z ?_)
  refine C5 (rs:=[2,5]) kr C C<|D5 ?_<|Dl ?_
  ·refine Se1 C (B1 (α:=Ev) (cs:=(ez e)) (xs:=[⟨e.kd,e.tm,e.u,e.v,e.w,e.lb,e.sg⟩]) Ad z6 C C dc dc C kr C C) λbi=>?_
   refine C5 (rs:=[3,5]) kr C C<|D5 ?_<|Dl ?_
   ·refine Se2 C (Bs (α:=Ev) (e:=54) (xs:=List.take i bf.ws) (ys:=([⟨e.kd,e.tm,e.u,e.v,e.w,e.lb,e.sg⟩]:List Ev)) Ad z6 C C C mm A5 ta3 dc C<|λ_ _=>am) λbe bq=>?_
    refine Ds1 5<|Sr C (Be ap1) Az ?_
    refine Dr 7 C (Do (α:=Ev) (xs:=bf.ws) (l:=i) Ad z6 C C om (A3 hl) om)<|Ds1 8<|Se2 C (Bs (α:=Ev) (e:=54) (xs:=(List.take i bf.ws)++([⟨e.kd,e.tm,e.u,e.v,e.w,e.lb,e.sg⟩]:List Ev)) (ys:=List.drop i bf.ws) Ad z6 C C C mm (Ep (A3 hl) om) ta3 dc C<|λ_ _=>am) λaq a1=>Z ?_
    refine Ch kr ?_
    refine Ae 10 C (Bt (cs:=[_,_,_,_]) (vs:=[_]) (cs':=[_,_,_,_]) ap1) ?_
    rintro _ _ ⟨rfl,rfl⟩
    refine Ci kr ?_
    have M:((List.take i bf.ws)++([⟨e.kd,e.tm,e.u,e.v,e.w,e.lb,e.sg⟩]:List Ev))++(List.drop i bf.ws)=K5 bf e:=ak5 (M9 (by intro h;first|omega|exact aa) hj)
    exact Dk ((aq),(a1)) trivial (hI:=by (try dsimp only);exact (by rw [←M];exact Az))
   refine Sr C (Be ap1) Az ?_
   refine Dr 7 C (Do (α:=Ev) (xs:=bf.ws) (l:=i) Ad z6 C C om (A3 hl) om)<|Ds1 3<|Se2 C (Bs (α:=Ev) (e:=54) (xs:=List.take i bf.ws) (ys:=([⟨e.kd,e.tm,e.u,e.v,e.w,e.lb,e.sg⟩]:List Ev)) Ad z6 C C C mm A5 ta3 dc C<|λ_ _=>am) λbh bo=>?_
   refine Ds1 8<|Se2 C (Bs (α:=Ev) (e:=54) (xs:=(List.take i bf.ws)++([⟨e.kd,e.tm,e.u,e.v,e.w,e.lb,e.sg⟩]:List Ev)) (ys:=List.drop i bf.ws) Ad z6 C C C mm (Ep (A3 hl) om) ta3 dc C<|λ_ _=>am) λaz au=>Z ?_
   refine Ch kr ?_
   refine Ae 10 C (Bt (cs:=[_,_,_,_]) (vs:=[_]) (cs':=[_,_,_,_]) ap1) ?_
   rintro _ _ ⟨rfl,rfl⟩
   refine Ci kr ?_
   have M:((List.take i bf.ws)++([⟨e.kd,e.tm,e.u,e.v,e.w,e.lb,e.sg⟩]:List Ev))++(List.drop i bf.ws)=K5 bf e:=ak5 (M9 (by intro h;first|omega|exact aa) hj)
   exact Dk ((az),(au)) trivial (hI:=by (try dsimp only);exact (by rw [←M];exact Az))
  refine Sr C (Be ap1) Az ?_
  refine Dr 7 C (Do (α:=Ev) (xs:=bf.ws) (l:=i) Ad z6 C C om (A3 hl) om)<|Ds1 2<|Se1 C (B1 (α:=Ev) (cs:=(ez e)) (xs:=[⟨e.kd,e.tm,e.u,e.v,e.w,e.lb,e.sg⟩]) Ad z6 C C dc dc C kr C C) λbp=>?_
  refine Ds1 3<|Se2 C (Bs (α:=Ev) (e:=54) (xs:=List.take i bf.ws) (ys:=([⟨e.kd,e.tm,e.u,e.v,e.w,e.lb,e.sg⟩]:List Ev)) Ad z6 C C C mm A5 ta3 dc C<|λ_ _=>am) λbj bg=>?_
  refine Ds1 8<|Se2 C (Bs (α:=Ev) (e:=54) (xs:=(List.take i bf.ws)++([⟨e.kd,e.tm,e.u,e.v,e.w,e.lb,e.sg⟩]:List Ev)) (ys:=List.drop i bf.ws) Ad z6 C C C mm (Ep (A3 hl) om) ta3 dc C<|λ_ _=>am) λaw ar=>Z ?_
  refine Ch kr ?_
  refine Ae 10 C (Bt (cs:=[_,_,_,_]) (vs:=[_]) (cs':=[_,_,_,_]) ap1) ?_
  rintro _ _ ⟨rfl,rfl⟩
  refine Ci kr ?_
  have M:((List.take i bf.ws)++([⟨e.kd,e.tm,e.u,e.v,e.w,e.lb,e.sg⟩]:List Ev))++(List.drop i bf.ws)=K5 bf e:=ak5 (M9 (by intro h;first|omega|exact aa) hj)
  exact Dk ((aw),(ar)) trivial (hI:=by (try dsimp only);exact (by rw [←M];exact Az))
 rintro ⟨a9,a4⟩ hp
 refine Z ?_
 refine Ge0 (Bt (cs:=[_,_,_,_]) (vs:=[_]) (cs':=[_,_,_,_]) ef)<|Z ?_
 have ao:((if bf.lt<e.tm then e.tm else bf.lt) - bd) - 1=ah2 bd bf e:=by unfold ah2;rw [an9]
 rw [ao]
 refine G.e (Ab c_ C C<|cp9 (bd:=bd) (lt:=if bf.lt<e.tm then e.tm else bf.lt) (mr:=bf.mr) (m:=(ah2 bd bf e)) A5<|by rw [ab8];omega) ?_
 rintro _ _ ⟨_,_,⟨an,ak,ae,ai,rfl,rfl⟩,rfl,rfl⟩
 refine Z ?_
 refine Ge1 (Aj J6 C) λb9=>Ge0 (C9 J6)<|Z ?_
 refine Ge0 (C9 J6)<|Z ?_
 exact Cs C J6 C C C mm C (vk 54 ae ai ((bf.out bd e))::vk 54 an ak (bf.push bd e).ws::I) Az ⟨an,ak,ae,ai,(by rw [an9];rfl),rfl⟩
theorem do9(hb:0<=bd/\bd<=1048576):eu prog κ 66 [e7 bd] I (λr J=>r = .tuple #[.agg #[e7 bd,e7 (-1),e7 (-1),.slice none 0 0],e7 0]/\I=J):=by
 refine Ce1 Tryz.func66 C C ?_
 refine Al<|Ge1 (Aj J6 C) λb1=>Z ?_
 refine A4 (d:=6) C (λg6=>?_)<|λg6=>Z ?_
 ·omega
 refine Ao C (λM=>?_)<|λM=>Z ?_
 ·omega
 refine Ge0 (C9 J6) ?_
 exact Ga C<|Ar<|B3<|Cp C J6 C C mm C I Ah ⟨rfl,rfl⟩
theorem dp1{κ:Ctx}{I:List Item}{nd kd wd mo:Int}(T:List Item)(ai:1<=nd/\nd<=64)(hw:s7 kd wd mo=0)(hb:0<=bd/\bd<=1048576):eu prog κ 79 [e7 nd,e7 bd,.agg #[e7 kd,e7 wd,e7 mo]] I (λr J=>∃(v':KpV) (Y:List Item),r = .tuple #[.agg (kx kd wd mo bd nd ((⟨⟨-1, -1,[]⟩,[],0⟩:EnS)) v').toArray,e7 0]/\KpF κ (Y++T) nd (⟨⟨-1, -1,[]⟩,[],0⟩:EnS) v'/\J=Y++I):=by
 refine Ce3 Tryz.func79 C C ?_
 refine Al<|Ge1 (Av (cs:=[_,_,_]) C C C) λb1=>Ge1 (Aj H2 C) λb2=>Z ?_
 refine A4 (d:=13) C (λah=>?_)<|λah=>Z ?_
 ·omega
 refine Ao C (λae=>?_)<|λae=>Z ?_
 ·omega
 refine Gc0 (Ab c_ C C<|do9 hb)<|Z ?_
 refine Ge1 (Aj J6 C) λb3=>Ge0 (C9 J6) ?_
 refine Ga C<|Ar<|A0 (S5 9 8 6 5 0)<|Ax<|Al<|Gm C<|Gr (Cb C C)<|Ar<|Ao C (λab=>?_)<|λab=>?_
 ·exact absurd ab dc
 refine Bc<|Ak<|Ax<|Al<|Gl3 da0 ?_
 refine Gc0 (Ab c_ C C<|am2 kd wd mo) ?_
 refine Ga C<|Ar<|Al<|Gm C<|Gr (Cb C C)<|Ar<|Ao C (λad=>?_)<|λad=>?_
 ·exact absurd hw ad
 refine Bc<|Ak<|Al<|Gl3 da0 ?_
 refine Gl4 J6 ?_
 refine Gm C<|Gr (Cn (cells:=[_,_]) Q2 Tryz.underlying35 ge4 C C)<|Gr (Cn (cells:=[e7 kd,e7 wd,e7 mo,e7 bd,e7<|(-1),e7<|(-1),.slice none 0 0,e7 nd,.slice none 0 0,e7 0,.slice none 0 0,.slice none 0 0,e7 0,.slice none 0 0,.slice none 0 0,e7 0,.slice none 0 0,e7 0,.slice none 0 0,e7 0,.slice none 0 0,e7 0,e7 0,.slice none 0 0,e7 0]) H2 Et fw0 C kr)<|G.e (Ab c_ C C<|ax2 (nd:=nd) (S:=[]) (Sl.nil _) (ft5 om) om) ?_
 rintro _ _ ⟨_,_,⟨M,Y5,rfl,aa,rfl⟩,rfl,rfl⟩
 refine Dp (J:=e8 b3 [e7 bd,e7<|(-1),e7<|(-1),.slice none 0 0] 32::e8 b2 zk 47::e8 b1 [e7 kd,e7 wd,e7 mo] 29::(Y5++I)) (Cj<|Cz (A:=Y5) (L:=[e8 b3 [e7 bd,e7<|(-1),e7<|(-1),.slice none 0 0] 32,e8 b2 zk 47,e8 b1 [e7 kd,e7 wd,e7 mo] 29]) (T:=I)) ?_
 show G prog κ _ _ _ _ ([(38,.agg (ky kd wd mo bd (-1) (-1) none 0 0 nd none 0 0 (j6<|[]) M 0).toArray),(37,.agg #[e7 kd,e7 wd,e7 mo,e7 bd,e7<|(-1),e7<|(-1),.slice none 0 0,e7 nd,.slice none 0 0,e7 0,.slice none 0 0,.slice none 0 0,e7 0,.slice none 0 0,.slice none 0 0,e7 0,.slice none 0 0,e7 0,.slice none 0 0,e7 0,.slice none 0 0,e7 0,e7 0,.slice none 0 0,e7 0]),(36,.agg #[e7 nd,.slice none 0 0]),(35,e7 nd),(34,.agg #[e7 bd,e7<|(-1),e7<|(-1),.slice none 0 0]),(33,.agg #[e7 kd,e7 wd,e7 mo]),(30,.bool<|decide<|(s7 kd wd mo)≠0),(29,e7<|s7 kd wd mo),(10,e7<|s7 kd wd mo),(28,e7<|s7 kd wd mo),(27,.agg #[e7 kd,e7 wd,e7 mo]),(24,.bool<|decide<|0≠0),(23,e7 0),(9,e7 0),(8,pt b3),(6,pt b2),(5,pt b1),(0,e7 nd)]:Env) (e8 b3 [e7 bd,e7<|(-1),e7<|(-1),.slice none 0 0] 32::e8 b2 zk 47::e8 b1 [e7 kd,e7 wd,e7 mo] 29::(Y5++I))
 refine Ge0 (Eff.sq H2)<|Z ?_
 exact Cp C H2 C C mm C ((Y5++I)) Ah ⟨⟨⟨none,0⟩,⟨none,0⟩,M⟩,Y5,rfl,⟨Sl.nil _,Sl.nil _,PkR.fit aa<|C4<|Hs _ _⟩,rfl⟩
end Go.Sl
namespace Go.Sl
open Go.Proofs
set_option maxRecDepth 4000
variable{bd kd mo nd wd:Int}
variable {κ:Ctx}{I:List Item}
theorem fc2{k:EnS}{v:KpV}{pv:PkV}(M:KpF κ I nd k v)(hp:PkR κ I nd (j6 k.S) pv):eu prog κ 33 [.agg (kx kd wd mo bd nd k v).toArray,.agg (ky kd wd mo bd k.b.lt k.b.mr v.w.a k.b.ws.length v.w.c nd v.l.a k.S.length v.l.c (j6 k.S) pv k.tm).toArray] I λr J=>r = .bool true/\I=J:=
 cx0 (v2:=⟨v.w,v.l,pv⟩) M ⟨M.w,M.l,hp⟩
theorem bh1{k:EnS}{v:KpV}(hF:KpF κ I nd k v)(hK:EnV nd kd wd mo bd k)(ah:k.b.ws.length<=4096)(h1:1<=nd):eu prog κ 122 [.agg (kx kd wd mo bd nd k v).toArray] I (λr J=>r = .bool true/\I=J):=by
 have ae:=q9 (F6 hK.inv.val)
 have ai:=ae
 rw [G0] at ai
 have ap:=hK.tm
 refine Ce1 Tryz.func122 C C ?_
 refine Al<|Ge1 (Av (cs:=[_,_,_,_,_,_,_,_,_,_,_,_,_,_,_,_,_,_,_,_,_,_,_,_,_]) C C C) λb1=>Ga C<|Ar<|Ax<|Al<|Gf aw3 C<|Gl4 J6 ?_
 refine G.e (Ab c_ C C<|ax1 (bd:=bd) (bf:=k.b) (Bd hF.w<|B4 (κ:=κ)<|by repeat (first|exact hH|exact Bh _|apply Bg|apply B2|apply Bp)) hK.buf ah) ?_
 rintro _ _ ⟨_,_,⟨rfl,rfl⟩,rfl,rfl⟩
 refine Gr (Ey C)<|Gm C<|e9 (Af aw4 C)<|e9 (Bl (vs:=[_,_,_]) da0) ?_
 refine Dt (Cm C C C) (Ab c_ C C<|am2 kd wd mo) ?_
 rintro _ _ ⟨_,_,⟨rfl,rfl⟩,rfl,rfl⟩
 refine e9 (Cb C C)<|Gr (Bk C C)<|Gm C<|A4 (d:=14) C (λab=>?_)<|λab=>?_
 ·exact absurd hK.win ab
 refine e9 (Af Z8 C)<|e9 (Bl (vs:=[_,_]) Q2) ?_
 refine Dt (Cm C C C) (Ab c_ C C<|Z4 (nd:=nd)<|Bd hF.l<|B4 (κ:=κ)<|by repeat (first|exact hH|exact Bh _|apply Bg|apply B2|apply Bp)) ?_
 rintro _ _ ⟨_,_,⟨rfl,rfl⟩,rfl,rfl⟩
 refine e9 (Cb C C)<|Gr (Bk C C)<|Gm C<|A4 (d:=20) C (λad=>?_)<|λad=>?_
 ·exact absurd hK.inv.val ad
 refine e9 (Af aw2 C)<|e9 (Be ef) ?_
 refine e9 (Bm C C)<|Gr (Bk C C)<|Gm C<|A4 (d:=25) C (λan=>?_)<|λan=>?_
 ·omega
 refine e9 (Af aw2 C)<|e9 (Be ef) ?_
 refine e9 (Dc C C)<|Gr (Bk C C)<|Ar<|A0 (S2 29 1)<|Ao C (λao=>?_)<|λao=>?_
 ·omega
 refine Bc<|Ak<|Ax<|Al<|Ga C<|Ar<|A7<|B9 (σ:=Nat) (λs=>([(1,pt b1),(3,e7 ((s:Nat):Int))]:Env)) (λs=>e8 b1 (kx kd wd mo bd nd k v) 47::I) (λs=>(s<=k.S.length)) (λs=>k.S.length - s) 0 (show ((0:Nat)<=k.S.length) from om) (Aa C<|Aa Cl Bb) (show Fit κ _ (e8 b1 (kx kd wd mo bd nd k v) 47::I) from Az) ?_
 rintro i hp
 have hi:=hp
 refine Ax<|Al<|Gm C<|Gf Z8 C<|Gf N6 C<|Gl au1 ?_
 refine Gr (Bn A2 C)<|Gr (Bm C C)<|Ar<|Ao C (λak=>?_)<|λak=>?_
 ·refine Bc (Ak<|Ax<|A7<|Ax<|A8 mixed<|Bv (e8 b1 (kx kd wd mo bd nd k v) 47::I) 10<|Dr 0 C (Af Z8 C)<|Dr 1 C (Af N6 C)<|Dr 2 C (Be au1) ?_)
  refine Dr 3 C (Ap C)<|Dr 4 C (A1 (α:=Lk) (xs:=k.S) A2 J8 C C (Bd hF.l<|B4 (κ:=κ)<|by repeat (first|exact hH|exact Bh _|apply Bg|apply B2|apply Bp)) om om)<|Dr 5 C (Fe (α:=Lk) (xs:=k.S) br7 C (Bd hF.l<|B4 (κ:=κ)<|by repeat (first|exact hH|exact Bh _|apply Bg|apply B2|apply Bp)) om)<|Dr 6 C (E3 (α:=Lk) (xs:=k.S) (u:=e7 ((e_ k.S i).tm)) ef C (Bd hF.l<|B4 (κ:=κ)<|by repeat (first|exact hH|exact Bh _|apply Bg|apply B2|apply Bp)) om om C)<|Dr 7 C (Af aw2 C)<|Dr 8 C (Be ef) ?_
  refine Dr 9 C (Dc C C)<|Dz<|Ak<|A0 (S3 47 1 3)<|Ao C (λaj=>?_)<|λaj=>?_
  ·exact absurd (hK.inv.tm _<|Bo (xs:=k.S) (i:=(i:Int)) om om) om
  exact Bc<|Au<|Ak<|A6<|Gm C<|Gr (Rad C C)<|Ga C<|Bq<|Bu ((i+1)) om
 refine Cg<|Aw<|Aw<|Bi<|Ak<|Ax<|A8 mixed<|Bv (e8 b1 (kx kd wd mo bd nd k v) 47::I) 5<|Dr 0 C (j8.lj H2) ?_
 refine Dr 1 C (j8.lj H2) ?_
 refine Ds1 2<|Se C (Ab c_ C C<|ax2 (nd:=nd) (S:=k.S) (Bd hF.l<|B4 (κ:=κ)<|by repeat (first|exact hH|exact Bh _|apply Bg|apply B2|apply Bp)) hK.inv.val om) ?_
 rintro _ _ ⟨_,_,⟨M,Y3,rfl,aa,rfl⟩,rfl,rfl⟩
 refine ⟨Ah,?_⟩
 refine D.fit (J:=e8 b1 (kx kd wd mo bd nd k v) 47::(Y3++I)) (Cj<|Cz (A:=Y3) (L:=[e8 b1 (kx kd wd mo bd nd k v) 47]) (T:=I)) ?_
 show D prog κ _ _ _ _ _ _ _ ([(50,.agg (ky kd wd mo bd k.b.lt k.b.mr v.w.a k.b.ws.length v.w.c nd v.l.a k.S.length v.l.c (j6 k.S) M k.tm).toArray),(49,.agg (kx kd wd mo bd nd k v).toArray),(48,.agg (kx kd wd mo bd nd k v).toArray),(35,.bool<|decide<|(i:Int)<((k.S.length:Nat):Int)),(34,e7 ((k.S.length:Nat):Int)),(33,.slice v.l.a k.S.length v.l.c),(32,.pointer<|some ⟨b1,8,none⟩),(31,.pointer<|some ⟨b1,7,none⟩),(30,e7<|(i:Int)),(1,pt b1),(3,e7<|(i:Int))]:Env) (e8 b1 (kx kd wd mo bd nd k v) 47::(Y3++I))
 refine Ds1 3<|Sc0 C (Ab c_ C C<|fc2 (k:=k) (v:=v) (pv:=M) (KpF.fit hF<|B4 (κ:=κ)<|by repeat (first|exact Bh _|apply Bg|apply Bp))<|PkR.fit aa<|C4<|by repeat (first|exact Hs _ _|apply List.Sublist.cons)) ?_
 exact Dr 4 C (Bj C)<|Dz<|Ak<|B3<|Am C C I (B4 (κ:=κ)<|by repeat (first|exact Bh _|apply Bg|apply Bp)) ⟨rfl,rfl⟩
end Go.Sl
namespace Go.Sl
open Go.Proofs
set_option maxRecDepth 4000
attribute [local irreducible] W G V D A j8 Eff
theorem bt5{κ:Ctx}{I:List Item}{nd:Int}{e:Ev}{la oa:Option Addr}{lc oc:Nat}{xs:List Lk}{o:List Ev}(hl:Sl κ I (.slice la xs.length lc) xs)(ap:p9 nd xs=0)(ao:H4 nd e)(aq:xs.length<=1000000)(ho:o.length<=10000000):eu prog κ 169 [.agg #[e7 nd,.slice la xs.length lc],.slice oa o.length oc,.agg (ez e).toArray] (vk 54 oa oc o::I) (λr J=>∃(a:Option Addr) (c:Nat) (a2:Option Addr) (c2:Nat),r = .tuple #[.agg #[e7 nd,.slice a (ep xs e).length c],.slice a2 (o++[e]).length c2]/\J=vk 82 a c (ep xs e)::vk 54 a2 c2 (o++[e])::I):=by
 refine Ce3 Tryz.func169 C C ?_
 refine Al<|Ge1 (Av (cs:=[_,_]) C C C) λb1=>Ge1 (Av (cs:=[_,_,_,_,_,_,_]) C C C) λb2=>Ge1 (Aj Q2 C) λb3=>Z ?_
 refine G.e (Ab c_ C C<|cc4 (nd:=nd) (e:=e) (A3 hl) ap ao aq) ?_
 rintro _ _ ⟨_,_,⟨⟨aa,M,au,an,ar⟩,⟨rfl,ak⟩,rfl⟩,rfl,rfl⟩
 show G prog κ _ _ _ _ ([(11,.tuple #[.agg #[e7 nd,.slice aa (ep xs e).length M],.slice au an ar,e7 0]),(10,.agg (ez e).toArray),(9,.agg #[e7 nd,.slice la xs.length lc]),(7,.slice none 0 0),(6,pt b3),(5,pt b2),(3,pt b1),(0,.agg #[e7 nd,.slice la xs.length lc]),(1,.slice oa o.length oc),(2,.agg (ez e).toArray)]:Env) (vk 82 aa M (ep xs e)::e8 b3 [e7 0,.slice none 0 0] 35::e8 b2 (ez e) 54::e8 b1 [e7 nd,.slice la xs.length lc] 35::vk 54 oa oc o::I)
 have ak:an<=2*xs.length+1:=ak
 refine Z ?_
 refine Ge0 (Co Q2)<|Z ?_
 refine A8 mixed<|Bv (vk 82 aa M (ep xs e)::e8 b3 [e7 0,.slice none 0 0] 35::e8 b2 (ez e) 54::e8 b1 [e7 nd,.slice aa (ep xs e).length M] 35::I) 5<|Z ?_
 refine C5 (rs:=[1,2]) kr C C<|D5 ?_<|Dl ?_
 ·refine Sr C (Ap C) Az ?_
  refine Ds1 2<|Sr C (Bl (vs:=[_,_,_,_,_,_,_]) z6) Az ?_
  refine Ds1 3<|Se1 C (B1 (α:=Ev) (cs:=(ez e)) (xs:=[⟨e.kd,e.tm,e.u,e.v,e.w,e.lb,e.sg⟩]) Ad z6 C C dc dc C kr C C) λax=>?_
  refine Ds1 4<|Se2 C (Bs (α:=Ev) (e:=54) (xs:=o) (ys:=([⟨e.kd,e.tm,e.u,e.v,e.w,e.lb,e.sg⟩]:List Ev)) Ad z6 C C C mm A5 lcn dc C<|λ_ _=>am) λai ae=>?_
  refine Ch kr ?_
  refine Ae 5 C (Co Q2) ?_
  rintro _ _ ⟨rfl,rfl⟩
  refine Di (i:=6) kr C (Aq C) C C (Bj C) ?_
  refine Ci kr ?_
  exact Ak<|B3<|Cp C Q2 C C mm C (vk 82 aa M (ep xs e)::vk 54 ai ae (o++[e])::I) Az ⟨aa,M,ai,ae,rfl,rfl⟩
 refine Sr C (Bl (vs:=[_,_,_,_,_,_,_]) z6) Az ?_
 refine C5 (rs:=[1,3]) kr C C<|D5 ?_<|Dl ?_
 ·refine Sr C (Ap C) Az ?_
  refine Ds1 3<|Se1 C (B1 (α:=Ev) (cs:=(ez e)) (xs:=[⟨e.kd,e.tm,e.u,e.v,e.w,e.lb,e.sg⟩]) Ad z6 C C dc dc C kr C C) λaw=>?_
  refine Ds1 4<|Se2 C (Bs (α:=Ev) (e:=54) (xs:=o) (ys:=([⟨e.kd,e.tm,e.u,e.v,e.w,e.lb,e.sg⟩]:List Ev)) Ad z6 C C C mm A5 lcn dc C<|λ_ _=>am) λaj ad=>?_
  refine Ch kr ?_
  refine Ae 5 C (Co Q2) ?_
  rintro _ _ ⟨rfl,rfl⟩
  refine Di (i:=6) kr C (Aq C) C C (Bj C) ?_
  refine Ci kr ?_
  exact Ak<|B3<|Cp C Q2 C C mm C (vk 82 aa M (ep xs e)::vk 54 aj ad (o++[e])::I) Az ⟨aa,M,aj,ad,rfl,rfl⟩
 refine Se1 C (B1 (α:=Ev) (cs:=(ez e)) (xs:=[⟨e.kd,e.tm,e.u,e.v,e.w,e.lb,e.sg⟩]) Ad z6 C C dc dc C kr C C) λav=>?_
 refine Ds1 1<|Sr C (Ap C) Az ?_
 refine Ds1 4<|Se2 C (Bs (α:=Ev) (e:=54) (xs:=o) (ys:=([⟨e.kd,e.tm,e.u,e.v,e.w,e.lb,e.sg⟩]:List Ev)) Ad z6 C C C mm A5 lcn dc C<|λ_ _=>am) λah ab=>?_
 refine Ch kr ?_
 refine Ae 5 C (Co Q2) ?_
 rintro _ _ ⟨rfl,rfl⟩
 refine Di (i:=6) kr C (Aq C) C C (Bj C) ?_
 refine Ci kr ?_
 exact Ak<|B3<|Cp C Q2 C C mm C (vk 82 aa M (ep xs e)::vk 54 ah ab (o++[e])::I) Az ⟨aa,M,ah,ab,rfl,rfl⟩
end Go.Sl
namespace Go.Sl
open Go.Proofs
set_option maxRecDepth 4000
variable{t wd:Int}{l:List Lk}{k:Nat}
def as3(wd t:Int)(l:List Lk):List Ev:=(l.filter λx=>decide (x.tm+wd=t)).map (M0 t)
theorem by7(h:k<l.length)(M:(e_ l k).tm+wd=t):as3 wd t (l.take (k+1))=as3 wd t (l.take k)++[M0 t (e_ l k)]:=by
 unfold as3
 rw [Ca l k h,Gu,Hv]
 congr 1
 simp [M]
theorem co6(h:k<l.length)(M:¬(e_ l k).tm+wd=t):as3 wd t (l.take (k+1))=as3 wd t (l.take k):=by
 unfold as3
 rw [Ca l k h,Gu,Hv]
 simp [M]
theorem cu5{kd mo:Int}(hk:kd=2)(hm:∀x∈l,t<=x.tm+wd):as3 wd t l=s6 kd wd mo t l:=by
 unfold as3 s6
 congr 1
 refine H_ λx M=>?_
 have:=hm x M
 unfold inW
 rw [B_ hk]
 rw [Kd]
 simp only [Gs,Kl,Lp]
 omega
theorem cu4(wd t:Int)(l M:List Lk)(k:Nat)(h:k<l.length)(ht:(e_ l k).tm+wd=t):ep ((as3 wd t (l.take k)).foldl ep M) (M0 t (e_ l k))=(as3 wd t (l.take (k+1))).foldl ep M:=by
 rw [by7 h ht,Hf];rfl
theorem dk2{nd:Int}{x:Lk}(h:p9 nd l=0)(hx:x∈l)(ht:0<=t/\t<=1048576):H4 nd (M0 t x):=by
 have h1:=bj9 h x hx
 have h2:=(Q5 h).1
 exact ⟨by show (1:Int)<=2/\(2:Int)<=3;omega,ht,⟨by show 0<=x.u/\x.u<64;omega,λM=>absurd M (by show ¬(2:Int)=3;decide),λ_=>by show (0<=x.v/\x.v<64)/\x.u≠x.v;omega⟩,
  λM=>absurd M (by show ¬(2:Int)=1;decide),by show x.u<nd/\x.v<nd;omega,λ_=>⟨rfl,rfl,rfl⟩⟩
end Go.Sl
