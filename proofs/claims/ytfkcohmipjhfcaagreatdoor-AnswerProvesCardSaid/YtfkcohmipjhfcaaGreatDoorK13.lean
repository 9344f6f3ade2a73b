/- A part of the proofs of statements of this seat: contracts of functions, and the plain laws that they lean on. No conditions. -/
import Derived.Test.YtfkcohmipjhfcaaGreatDoorK12
set_option linter.unusedVariables false
set_option linter.unusedSimpArgs false
set_option linter.unusedSectionVars false
open Go.Proofs.Tryz (prog)
open List (replicate)
namespace Go.Sl
open Go.Proofs
set_option maxRecDepth 4000
variable {κ:Ctx}{I:List Item}
def rowsI(rs:List Row):List Item:=rs.map λr=>vc 3 (.slice r.a r.xs.length r.c) r.xs
theorem Fit.nilrows:∀N:Nat,Fit κ I (rowsI (replicate N (default:Row))++I)
 |0=>Fit.refl _
 |N+1=>Cn (Fit.nilrows N) (B2 _ _)
theorem At.rows{I:List Item}{ad:Option Addr}{c:Nat}{xs:List Int}:∀{rs:List Row} {i:Int},0<=i->i<rs.length->
  At (rowsI rs++I) (vc 3 (.slice (e_ rs i).a (e_ rs i).xs.length (e_ rs i).c) (e_ rs i).xs) (vc 3 (.slice ad xs.length c) xs) (rowsI (List.set rs i.toNat ⟨ad,c,xs⟩)++I):=fun {rs} {i} h0 h=>by
 obtain ⟨k,rfl⟩:∃k:Nat,i=(k:Int):=⟨i.toNat,by omega⟩
 rw [Int.toNat_natCast]
 clear h0
 induction rs generalizing k with
 |nil=>simp at h;omega
 |cons r rs ih=>
  cases k with
  |zero=>exact At.head _ _ _
  |succ k=>exact At.tail _ (ih k (by simp at h;omega))
theorem rowsI_mem{I:List Item}{rs:List Row}{i:Int}(h0:0<=i)(h:i<rs.length):vc 3 (.slice (e_ rs i).a (e_ rs i).xs.length (e_ rs i).c) (e_ rs i).xs∈rowsI rs++I:=(At.rows (ad:=none) (c:=0) (xs:=[]) h0 h).mem
theorem rowsI_sl{rs:List Row}(i:Int)(h0:0<=i)(h:i<rs.length):Sl κ (rowsI rs++I) (.slice (e_ rs i).a (e_ rs i).xs.length (e_ rs i).c) (e_ rs i).xs:=Sl.vec (rowsI_mem h0 h)
structure OI (n:Net) (rs:List Row) (hs:List Half) (k:Nat):Prop where
 len:(rs.length:Int)=n.nodes
 hlen:hs.length=2*k
 get:∀i:Int,0<=i->i<2*k->(e_ hs i).frm=fromH n i/\(e_ hs i).dst=toH n i/\(e_ hs i).left=if i % 2=0 then (e_ n.arcs (i / 2)).cap else 0
 all:∀v,0<=v->v<n.nodes->∀i∈(e_ rs v).xs,(0<=i/\i<2*k)/\fromH n i=v
 has:∀i:Int,0<=i->i<2*k->i∈(e_ rs (fromH n i)).xs
 bnd:∀v,0<=v->v<n.nodes->(e_ rs v).xs.length<=2*k
theorem OI.start{n:Net}(hok:n.Ok):OI n (replicate n.nodes.toNat (default:Row)) [] 0:=by
 have:=hok.two
 have h:∀v,0<=v->v<n.nodes->e_ (replicate n.nodes.toNat (default:Row)) v=default:=λv a b=>at_rep _ _ _ a om
 exact ⟨by rw [List.length_replicate];omega,rfl,λi a b=>by omega,λv a b i hi=>(by rw [h v a b] at hi;cases hi),λi a b=>om,λv a b=>(by rw [h v a b];exact Nat.zero_le _)⟩
theorem OI.step{n:Net}(hok:n.Ok){rs:List Row}{hs:List Half}{k:Nat}(h:OI n rs hs k)(hk:k<n.arcs.length)(a1 a2:Option Addr)(c1 c2:Nat){x y u w:Int}(hx:x=2*k)(hy:y=2*k+1)(hu:u=(e_ n.arcs k).frm)(hw:w=(e_ n.arcs k).dst) :
  OI n (List.set (List.set rs u.toNat ⟨a1,c1,(e_ rs u).xs++[x]⟩) w.toNat ⟨a2,c2,(e_ (List.set rs u.toNat ⟨a1,c1,(e_ rs u).xs++[x]⟩) w).xs++[y]⟩)
   (hs++[⟨u,w,(e_ n.arcs k).cap,(e_ n.arcs k).cap⟩,⟨w,u,0,0⟩]) (k+1):=by
 have ha:=arc_at hok hk
 subst hx hy hu hw
 have hlen:=h.len
 have hl2:=h.hlen
 generalize hA:e_ n.arcs k=A at *
 have f0:fromH n (2*(k:Int))=A.frm:=by unfold fromH;rw [if_pos om,show (2*(k:Int)) / 2=k from by omega,hA]
 have f1:fromH n (2*(k:Int)+1)=A.dst:=by unfold fromH;rw [if_neg om,show (2*(k:Int)+1) / 2=k from by omega,hA]
 have t0:toH n (2*(k:Int))=A.dst:=by unfold toH;rw [if_pos om,show (2*(k:Int)) / 2=k from by omega,hA]
 have t1:toH n (2*(k:Int)+1)=A.frm:=by unfold toH;rw [if_neg om,show (2*(k:Int)+1) / 2=k from by omega,hA]
 have e1:e_ (List.set rs A.frm.toNat ⟨a1,c1,(e_ rs A.frm).xs++[2*(k:Int)]⟩) A.dst=e_ rs A.dst:=by rw [C8 rs _ _ _ ha.1.1 ha.2.1.1 om,if_neg ha.2.2.1]
 have hat:∀v,0<=v->v<n.nodes->(e_ (List.set (List.set rs A.frm.toNat ⟨a1,c1,(e_ rs A.frm).xs++[2*(k:Int)]⟩) A.dst.toNat ⟨a2,c2,(e_ (List.set rs A.frm.toNat ⟨a1,c1,(e_ rs A.frm).xs++[2*(k:Int)]⟩) A.dst).xs++[2*(k:Int)+1]⟩) v).xs =
   (e_ rs v).xs++(if A.dst=v then [2*(k:Int)+1] else if A.frm=v then [2*(k:Int)] else []):=λv h0 h1=>by
  rw [C8 _ _ _ _ ha.2.1.1 h0 (by rw [List.length_set];omega),e1,C8 rs _ _ _ ha.1.1 h0 om]
  by_cases d1:A.dst=v
  ·rw [if_pos d1,if_pos d1,d1]
  ·rw [if_neg d1,if_neg d1]
   by_cases d2:A.frm=v
   ·rw [if_pos d2,if_pos d2,d2]
   ·rw [if_neg d2,if_neg d2,List.append_nil]
 refine ⟨by simp;exact hlen,by simp;omega,λi h0 h1=>?_,λv h0 h1 i hi=>?_,λi h0 h1=>?_,λv h0 h1=>?_⟩
 ·by_cases hi:i<2*k
  ·have:=h.get i h0 hi
   have e:e_ (hs++[⟨A.frm,A.dst,A.cap,A.cap⟩,⟨A.dst,A.frm,0,0⟩]) i=e_ hs i:=by
    have:=at_append_left hs [⟨A.frm,A.dst,A.cap,A.cap⟩,⟨A.dst,A.frm,0,0⟩] i.toNat om
    rwa [show ((i.toNat:Nat):Int)=i from by omega] at this
   rw [e];exact this
  ·have hcase:i=2*(k:Int)\/i=2*(k:Int)+1:=by omega
   rcases hcase with rfl|rfl
   ·have e:e_ (hs++[⟨A.frm,A.dst,A.cap,A.cap⟩,⟨A.dst,A.frm,0,0⟩]) (2*(k:Int))=⟨A.frm,A.dst,A.cap,A.cap⟩:=by
     unfold e_
     rw [show (2*(k:Int)).toNat=hs.length+0 from by omega,List.getD_eq_getElem?_getD,List.getElem?_append_right om,Nat.add_sub_cancel_left];rfl
    rw [e,f0,t0,if_pos om,show (2*(k:Int)) / 2=k from by omega,hA];exact ⟨rfl,rfl,rfl⟩
   ·have e:e_ (hs++[⟨A.frm,A.dst,A.cap,A.cap⟩,⟨A.dst,A.frm,0,0⟩]) (2*(k:Int)+1)=⟨A.dst,A.frm,0,0⟩:=by
     unfold e_
     rw [show (2*(k:Int)+1).toNat=hs.length+1 from by omega,List.getD_eq_getElem?_getD,List.getElem?_append_right om,Nat.add_sub_cancel_left];rfl
    rw [e,f1,t1,if_neg om];exact ⟨rfl,rfl,rfl⟩
 ·rw [hat v h0 h1] at hi
  rcases List.mem_append.1 hi with hi|hi
  ·have:=h.all v h0 h1 i hi
   exact ⟨by omega,this.2⟩
  ·by_cases d1:A.dst=v
   ·rw [if_pos d1] at hi
    rw [List.mem_singleton.1 hi];exact ⟨by omega,f1.trans d1⟩
   ·rw [if_neg d1] at hi
    by_cases d2:A.frm=v
    ·rw [if_pos d2] at hi
     rw [List.mem_singleton.1 hi];exact ⟨by omega,f0.trans d2⟩
    ·rw [if_neg d2] at hi;cases hi
 ·by_cases hi:i<2*k
  ·have:=h.has i h0 hi
   have hfr:=arc_at hok (k:=(i / 2).toNat) om
   rw [show (((i / 2).toNat:Nat):Int)=i / 2 from by omega] at hfr
   rw [hat _ (by unfold fromH;split<;>omega) (by unfold fromH;split<;>omega)]
   exact List.mem_append_left _ this
  ·have hcase:i=2*(k:Int)\/i=2*(k:Int)+1:=by omega
   rcases hcase with rfl|rfl
   ·rw [f0,hat _ ha.1.1 ha.1.2,if_neg (λe=>ha.2.2.1 e.symm),if_pos rfl];exact List.mem_append_right _ (List.mem_singleton.2 rfl)
   ·rw [f1,hat _ ha.2.1.1 ha.2.1.2,if_pos rfl];exact List.mem_append_right _ (List.mem_singleton.2 rfl)
 ·rw [hat v h0 h1,List.length_append]
  have:=h.bnd v h0 h1
  split
  ·simp only [List.length_cons,List.length_nil];omega
  ·split<;>simp only [List.length_cons,List.length_nil]<;>omega
theorem OI.done{n:Net}(hok:n.Ok){rs:List Row}{hs:List Half}{k:Nat}(h:OI n rs hs k)(hk:k=n.arcs.length):HOk n (replicate n.arcs.length (0:Int)) hs/\ROk n (rowsL rs):=by
 subst hk
 have hz:=flow_zero n hok
 have h0:∀j:Int,0<=j->j<n.arcs.length->e_ (replicate n.arcs.length (0:Int)) j=0:=λj a b=>at_rep _ _ _ a b
 refine ⟨⟨by have:=h.hlen;omega,by simp,hz.1.cap,λi hi=>?_⟩,⟨by unfold rowsL;rw [List.length_map];exact h.len,λv a b i hi=>by rw [rowsL_at] at hi;exact h.all v a b i hi,λi hi=>by rw [rowsL_at];exact h.has i hi.1 hi.2⟩⟩
 have h1:=hi.half
 have:=h.get i hi.1 hi.2
 refine ⟨this.1,this.2.1,this.2.2.trans ?_⟩
 unfold leftH
 rw [h0 _ h1.1 h1.2]
 split<;>omega
set_option maxHeartbeats 4000000 in
theorem Open_ok{n:Net}{v:Value}(hl:Sl κ I v n.arcs)(hok:n.Ok):eu prog κ 335 [.agg #[e7 (n.nodes),e7 (n.source),e7 (n.sink),v]] I (λr J=>∃(b:Nat) (hw ow lw nw:Value) (hs:List Half) (rs:List Row) (L nx:List Int),r = .pointer (some ⟨b,0,none⟩)/\(HOk n (replicate n.arcs.length (0:Int)) hs/\ROk n (rowsL rs)/\(L.length:Int)=n.nodes/\(nx.length:Int)=n.nodes)/\J=e8 b [hw,ow,lw,nw,e7 (n.sink)] 339::vc 336 hw (hs)::vc 3 lw (L)::vc 3 nw (nx)::(vc 22 ow rs::(rowsI rs++I))):=by
 refine Db (J:=(rowsI (replicate n.nodes.toNat (default:Row))++I)) (Fit.nilrows _) ?_
 have hl2:=hl
 have hlim:=hok.lim
 have htwo:=hok.two
 have hsrc:=hok.src
 have hsnk:=hok.snk
 refine Ce1 Tryz.func335 C C ?_
 refine Ai (Ge1 (A9 (cs:=[_,_,_,_]) C C C) λb1=>Ga C (Af (W.cut (σ:=Nat×(Option Addr)×Nat×(Option Addr)×Nat×(Option Addr)×Nat) (λs=>([(1,.pointer (some ⟨b1,0,none⟩)),(3,.pointer (some ⟨s.1,0,none⟩))]:Env)) (λs=>e8 s.1 [.slice none 0 0,.slice s.2.1 (replicate n.nodes.toNat (default:Row)).length s.2.2.1,.slice s.2.2.2.1 (replicate n.nodes.toNat (default:Int)).length s.2.2.2.2.1,.slice s.2.2.2.2.2.1 (replicate n.nodes.toNat (default:Int)).length s.2.2.2.2.2.2,e7 (n.sink)] 339::vc 22 (.slice s.2.1 (replicate n.nodes.toNat (default:Row)).length s.2.2.1) (replicate n.nodes.toNat (default:Row))::vc 3 (.slice s.2.2.2.1 (replicate n.nodes.toNat (default:Int)).length s.2.2.2.2.1) (replicate n.nodes.toNat (default:Int))::vc 3 (.slice s.2.2.2.2.2.1 (replicate n.nodes.toNat (default:Int)).length s.2.2.2.2.2.2) (replicate n.nodes.toNat (default:Int))::e8 b1 [e7 (n.nodes),e7 (n.source),e7 (n.sink),v] 303::(rowsI (replicate n.nodes.toNat (default:Row))++I)) (λs=>True) ?_ ?_)))
 ·refine Bl mixed (Bt (e8 b1 [e7 (n.nodes),e7 (n.source),e7 (n.sink),v] 303::(rowsI (replicate n.nodes.toNat (default:Row))++I)) 14 (Dr 0 C (Ab fld303_0 C) (Dr 1 C (As ef) ?_)))
  refine Dr 3 C (Ab fld303_0 C) (Dr 4 C (As ef) ?_)
  refine Dr 6 C (Ab fld303_0 C) (Dr 7 C (As ef) ?_)
  refine Dr 9 C (Ab fld303_2 C) (Dr 10 C (As ef) ?_)
  refine Cj (rs:=[2,5,8]) kr C C (Dg ?_ (Dg ?_ (Ds ?_)))
  ·refine Se2 C (Cp (α:=Row) (n:=n.nodes.toNat) Cl ty22 C C C om om dc C) λad2 cp3=>?_
   refine Cj (rs:=[5,8]) kr C C (Dg ?_ (Ds ?_))
   ·refine Se2 C (Cp (α:=Int) (n:=n.nodes.toNat) Ac ef C C C om om dc C) λad4 cp5=>?_
    refine Ds1 8 (Se2 C (Cp (α:=Int) (n:=n.nodes.toNat) Ac ef C C C om om dc C) λad6 cp7=>?_)
    refine Dr 11 C (Bc (cells:=[_,_,_,_,_]) ty339 Dx pl339 C C) (Ds1 12 (Se1 C (A9 (cs:=[_,_,_,_,_]) C C C) λb8=>?_))
    exact Dr 13 C (Bb C) (Dz (C9 ((b8),(ad2),(cp3),(ad4),(cp5),(ad6),(cp7)) trivial))
   ·refine Se2 C (Cp (α:=Int) (n:=n.nodes.toNat) Ac ef C C C om om dc C) λad9 cp10=>?_
    refine Ds1 5 (Se2 C (Cp (α:=Int) (n:=n.nodes.toNat) Ac ef C C C om om dc C) λad11 cp12=>?_)
    refine Dr 11 C (Bc (cells:=[_,_,_,_,_]) ty339 Dx pl339 C C) (Ds1 12 (Se1 C (A9 (cs:=[_,_,_,_,_]) C C C) λb13=>?_))
    exact Dr 13 C (Bb C) (Dz (C9 ((b13),(ad2),(cp3),(ad11),(cp12),(ad9),(cp10)) trivial))
  ·refine Se2 C (Cp (α:=Int) (n:=n.nodes.toNat) Ac ef C C C om om dc C) λad14 cp15=>?_
   refine Cj (rs:=[2,8]) kr C C (Dg ?_ (Ds ?_))
   ·refine Se2 C (Cp (α:=Row) (n:=n.nodes.toNat) Cl ty22 C C C om om dc C) λad16 cp17=>?_
    refine Ds1 8 (Se2 C (Cp (α:=Int) (n:=n.nodes.toNat) Ac ef C C C om om dc C) λad18 cp19=>?_)
    refine Dr 11 C (Bc (cells:=[_,_,_,_,_]) ty339 Dx pl339 C C) (Ds1 12 (Se1 C (A9 (cs:=[_,_,_,_,_]) C C C) λb20=>?_))
    exact Dr 13 C (Bb C) (Dz (C9 ((b20),(ad16),(cp17),(ad14),(cp15),(ad18),(cp19)) trivial))
   ·refine Se2 C (Cp (α:=Int) (n:=n.nodes.toNat) Ac ef C C C om om dc C) λad21 cp22=>?_
    refine Ds1 2 (Se2 C (Cp (α:=Row) (n:=n.nodes.toNat) Cl ty22 C C C om om dc C) λad23 cp24=>?_)
    refine Dr 11 C (Bc (cells:=[_,_,_,_,_]) ty339 Dx pl339 C C) (Ds1 12 (Se1 C (A9 (cs:=[_,_,_,_,_]) C C C) λb25=>?_))
    exact Dr 13 C (Bb C) (Dz (C9 ((b25),(ad23),(cp24),(ad14),(cp15),(ad21),(cp22)) trivial))
  ·refine Se2 C (Cp (α:=Int) (n:=n.nodes.toNat) Ac ef C C C om om dc C) λad26 cp27=>?_
   refine Cj (rs:=[2,5]) kr C C (Dg ?_ (Ds ?_))
   ·refine Se2 C (Cp (α:=Row) (n:=n.nodes.toNat) Cl ty22 C C C om om dc C) λad28 cp29=>?_
    refine Ds1 5 (Se2 C (Cp (α:=Int) (n:=n.nodes.toNat) Ac ef C C C om om dc C) λad30 cp31=>?_)
    refine Dr 11 C (Bc (cells:=[_,_,_,_,_]) ty339 Dx pl339 C C) (Ds1 12 (Se1 C (A9 (cs:=[_,_,_,_,_]) C C C) λb32=>?_))
    exact Dr 13 C (Bb C) (Dz (C9 ((b32),(ad28),(cp29),(ad30),(cp31),(ad26),(cp27)) trivial))
   ·refine Se2 C (Cp (α:=Int) (n:=n.nodes.toNat) Ac ef C C C om om dc C) λad33 cp34=>?_
    refine Ds1 2 (Se2 C (Cp (α:=Row) (n:=n.nodes.toNat) Cl ty22 C C C om om dc C) λad35 cp36=>?_)
    refine Dr 11 C (Bc (cells:=[_,_,_,_,_]) ty339 Dx pl339 C C) (Ds1 12 (Se1 C (A9 (cs:=[_,_,_,_,_]) C C C) λb37=>?_))
    exact Dr 13 C (Bb C) (Dz (C9 ((b37),(ad35),(cp36),(ad33),(cp34),(ad26),(cp27)) trivial))
 ·rintro ⟨b,ao,co,al,cl,an,cn⟩ hp
  show W prog κ 92 _ _ ([(1,.pointer (some ⟨b1,0,none⟩)),(3,.pointer (some ⟨b,0,none⟩))]:Env) (e8 b [.slice none 0 0,.slice ao (replicate n.nodes.toNat (default:Row)).length co,.slice al (replicate n.nodes.toNat (default:Int)).length cl,.slice an (replicate n.nodes.toNat (default:Int)).length cn,e7 (n.sink)] 339::vc 22 (.slice ao (replicate n.nodes.toNat (default:Row)).length co) (replicate n.nodes.toNat (default:Row))::vc 3 (.slice al (replicate n.nodes.toNat (default:Int)).length cl) (replicate n.nodes.toNat (default:Int))::vc 3 (.slice an (replicate n.nodes.toNat (default:Int)).length cn) (replicate n.nodes.toNat (default:Int))::e8 b1 [e7 (n.nodes),e7 (n.source),e7 (n.sink),v] 303::(rowsI (replicate n.nodes.toNat (default:Row))++I))
  refine Ap (Ai (Gf fld303_3 C (Gl ty301 ?_)))
  refine Gr (B0 (α:=Arc) (xs:=n.arcs) Dt C (Ba hl)) (Gm C (Af (A0 (B1 (σ:=Nat×(Option Addr)×Nat×(List Half)×(List Row)) (λs=>([(3,.pointer (some ⟨b,0,none⟩)),(20,v),(21,e7 ((n.arcs.length:Nat):Int)),(22,e7 ((s.1:Nat):Int))]:Env)) (λs=>vc 336 (.slice s.2.1 s.2.2.2.1.length s.2.2.1) (s.2.2.2.1)::e8 b [.slice s.2.1 s.2.2.2.1.length s.2.2.1,.slice ao (replicate n.nodes.toNat (default:Row)).length co,.slice al (replicate n.nodes.toNat (default:Int)).length cl,.slice an (replicate n.nodes.toNat (default:Int)).length cn,e7 (n.sink)] 339::vc 22 (.slice ao (replicate n.nodes.toNat (default:Row)).length co) (s.2.2.2.2)::vc 3 (.slice al (replicate n.nodes.toNat (default:Int)).length cl) (replicate n.nodes.toNat (default:Int))::vc 3 (.slice an (replicate n.nodes.toNat (default:Int)).length cn) (replicate n.nodes.toNat (default:Int))::e8 b1 [e7 (n.nodes),e7 (n.source),e7 (n.sink),v] 303::(rowsI s.2.2.2.2++I)) (λs=>(s.1<=n.arcs.length)/\(OI n s.2.2.2.2 s.2.2.2.1 s.1)) (λs=>n.arcs.length - s.1) (0,none,0,[],(replicate n.nodes.toNat (default:Row))) (show ((0:Nat)<=n.arcs.length)/\(OI n ((replicate n.nodes.toNat (default:Row)):List Row) ([]:List Half) (0:Nat)) from ⟨om,(OI.start hok)⟩) (Aa C (Aa C (Aa C (Aa Ca Bp)))) (show Fit κ _ (vc 336 (.slice none ([]).length 0) (([]))::e8 b [.slice none ([]).length 0,.slice ao (replicate n.nodes.toNat (default:Row)).length co,.slice al (replicate n.nodes.toNat (default:Int)).length cl,.slice an (replicate n.nodes.toNat (default:Int)).length cn,e7 (n.sink)] 339::vc 22 (.slice ao (replicate n.nodes.toNat (default:Row)).length co) (((replicate n.nodes.toNat (default:Row))))::vc 3 (.slice al (replicate n.nodes.toNat (default:Int)).length cl) (replicate n.nodes.toNat (default:Int))::vc 3 (.slice an (replicate n.nodes.toNat (default:Int)).length cn) (replicate n.nodes.toNat (default:Int))::e8 b1 [e7 (n.nodes),e7 (n.source),e7 (n.sink),v] 303::(rowsI ((replicate n.nodes.toNat (default:Row)))++I)) from (B2 _ _)) ?_))))
  rintro ⟨k,ah,ch,hs,rs⟩ hp
  dsimp only at hp ⊢
  obtain ⟨hk,hO⟩:=hp
  have hlen:=hO.len
  have hhl:=hO.hlen
  refine Ai (Gr (A7 C C) (Af (Ap (A8 C (λc23=>?_) (λc23=>?_)))))
  ·refine Ay (Aj (Ap (A0 (Ai (Gr (Az (α:=Arc) (xs:=n.arcs) Dt ty305 C C (Ba hl) om om) (Gr (Bz (α:=Arc) (xs:=n.arcs) ty305 C (Ba hl) om om) ?_))))))
   have hb:=hok.arc (e_ n.arcs k) (Bf om om)
   have hb1:=hO.bnd _ hb.1.1 hb.1.2
   have hb2:=hO.bnd _ hb.2.1.1 hb.2.1.2
   refine Ge1 (Au ty305 C) λb38=>Ge0 (Es3_3 ty305) ?_
   refine Af (Ap (Bl mixed (Bt (e8 b38 [e7 ((e_ n.arcs k).frm),e7 ((e_ n.arcs k).dst),e7 ((e_ n.arcs k).cap)] 305::vc 336 (.slice ah hs.length ch) (hs)::e8 b [.slice ah hs.length ch,.slice ao (replicate n.nodes.toNat (default:Row)).length co,.slice al (replicate n.nodes.toNat (default:Int)).length cl,.slice an (replicate n.nodes.toNat (default:Int)).length cn,e7 (n.sink)] 339::vc 22 (.slice ao (replicate n.nodes.toNat (default:Row)).length co) (rs)::vc 3 (.slice al (replicate n.nodes.toNat (default:Int)).length cl) (replicate n.nodes.toNat (default:Int))::vc 3 (.slice an (replicate n.nodes.toNat (default:Int)).length cn) (replicate n.nodes.toNat (default:Int))::e8 b1 [e7 (n.nodes),e7 (n.source),e7 (n.sink),v] 303::I) 22 (Dr 0 C (Ad C) (Dr 1 C (Bm C) (Dr 2 C (Ab fld339_1 C) (Dr 3 C (As ty79) ?_)))))))
   refine Dr 4 C (Ab fld305_0 C) (Dr 5 C (As ef) ?_)
   refine Dr 6 C (Ad C) (Dr 7 C (Bm C) (Dr 8 C (Ab fld339_1 C) (Dr 9 C (As ty79) ?_)))
   refine Dr 10 C (Ab fld305_0 C) (Dr 11 C (As ef) ?_)
   refine Dr 12 C (Az (α:=Row) (xs:=rs) Cl ty22 C C Bk om om) (Dr 13 C (Dj (α:=Row) (xs:=rs) (u:= .slice (e_ rs ((e_ n.arcs k).frm)).a (e_ rs ((e_ n.arcs k).frm)).xs.length (e_ rs ((e_ n.arcs k).frm)).c) ty22 C Bk om om C) (Dr 14 C (Ad C) (Dr 15 C (Bm C) (Dr 16 C (Ab fld339_0 C) (Dr 17 C (As ty337) ?_)))))
   refine Dr 18 C (Bs Ci C) (Ds1 19 (Se1 C (Cf (α:=Int) (cs:=[_]) (xs:=[((hs.length:Nat):Int)]) Ac ef C C dc dc C C C C) λad39=>?_))
   refine Ds1 20 (Se2 C (Cm (α:=Int) (e:=3) (xs:=(e_ rs ((e_ n.arcs k).frm)).xs) (ys:=([((hs.length:Nat):Int)]:List Int)) Ac ef C C C (by repeat (first|exact rowsI_mem (rs:=rs) (i:=((e_ n.arcs k).frm)) om om|apply List.mem_cons_of_mem)) Bk lcn dc C (λ_ _=>(by repeat (first|exact At.rows (rs:=rs) (i:=((e_ n.arcs k).frm)) om om|apply At.tail)))) λad40 cp41=>?_)
   show D prog κ _ _ _ _ _ _ _ ([(46,.slice ad40 ((e_ rs ((e_ n.arcs k).frm)).xs++([((hs.length:Nat):Int)]:List Int)).length cp41),(45,.slice ad39 1 1),(44,e7 ((hs.length:Nat):Int)),(43,.slice ah hs.length ch),(42,.pointer (some ⟨b,0,none⟩)),(41,.pointer (some ⟨b,0,none⟩)),(40,.pointer (some ⟨b,0,none⟩)),(39,.slice (e_ rs ((e_ n.arcs k).frm)).a (e_ rs ((e_ n.arcs k).frm)).xs.length (e_ rs ((e_ n.arcs k).frm)).c),(38,elemPtr (.slice ao (replicate n.nodes.toNat (default:Row)).length co) (((e_ n.arcs k).frm).toNat*Enc.sz Row)),(37,e7 ((e_ n.arcs k).frm)),(36,.pointer (some ⟨b38,0,none⟩)),(35,.slice ao (replicate n.nodes.toNat (default:Row)).length co),(34,.pointer (some ⟨b,1,none⟩)),(33,.pointer (some ⟨b,0,none⟩)),(32,.pointer (some ⟨b,0,none⟩)),(31,e7 ((e_ n.arcs k).frm)),(30,.pointer (some ⟨b38,0,none⟩)),(29,.slice ao (replicate n.nodes.toNat (default:Row)).length co),(28,.pointer (some ⟨b,1,none⟩)),(27,.pointer (some ⟨b,0,none⟩)),(26,.pointer (some ⟨b,0,none⟩)),(5,.pointer (some ⟨b38,0,none⟩)),(25,.agg #[e7 ((e_ n.arcs k).frm),e7 ((e_ n.arcs k).dst),e7 ((e_ n.arcs k).cap)]),(24,elemPtr v (((k:Int)).toNat*Enc.sz Arc)),(23,.bool (decide ((k:Int)<((n.arcs.length:Nat):Int)))),(3,.pointer (some ⟨b,0,none⟩)),(20,v),(21,e7 ((n.arcs.length:Nat):Int)),(22,e7 ((k:Int)))]:Env) (vc 3 (.slice ad39 1 1) (([((hs.length:Nat):Int)]:List Int))::e8 b38 [e7 ((e_ n.arcs k).frm),e7 ((e_ n.arcs k).dst),e7 ((e_ n.arcs k).cap)] 305::vc 336 (.slice ah hs.length ch) (hs)::e8 b [.slice ah hs.length ch,.slice ao (replicate n.nodes.toNat (default:Row)).length co,.slice al (replicate n.nodes.toNat (default:Int)).length cl,.slice an (replicate n.nodes.toNat (default:Int)).length cn,e7 (n.sink)] 339::vc 22 (.slice ao (replicate n.nodes.toNat (default:Row)).length co) (rs)::vc 3 (.slice al (replicate n.nodes.toNat (default:Int)).length cl) (replicate n.nodes.toNat (default:Int))::vc 3 (.slice an (replicate n.nodes.toNat (default:Int)).length cn) (replicate n.nodes.toNat (default:Int))::e8 b1 [e7 (n.nodes),e7 (n.source),e7 (n.sink),v] 303::(rowsI (List.set rs ((e_ n.arcs k).frm).toNat (⟨ad40,cp41,((e_ rs ((e_ n.arcs k).frm)).xs++([((hs.length:Nat):Int)]:List Int))⟩:Row))++I))
   refine Dr 21 C (Az (α:=Row) (xs:=rs) Cl ty22 C C Bk om om) (C0 kr ?_)
   refine Ae 22 C (Cx (α:=Row) (xs:=rs) (e:=22) (new:=(⟨ad40,cp41,((e_ rs ((e_ n.arcs k).frm)).xs++([((hs.length:Nat):Int)]:List Int))⟩:Row)) ty22 C C C om om am) ?_
   rintro _ _ ⟨rfl,rfl⟩
   have hsl:(List.set rs ((e_ n.arcs k).frm).toNat (⟨ad40,cp41,((e_ rs ((e_ n.arcs k).frm)).xs++([((hs.length:Nat):Int)]:List Int))⟩:Row)).length=rs.length:=List.length_set
   have hsd:e_ (List.set rs ((e_ n.arcs k).frm).toNat (⟨ad40,cp41,((e_ rs ((e_ n.arcs k).frm)).xs++([((hs.length:Nat):Int)]:List Int))⟩:Row)) (e_ n.arcs k).dst=e_ rs (e_ n.arcs k).dst:=by rw [C8 rs _ _ _ hb.1.1 hb.2.1.1 om,if_neg hb.2.2.1]
   have hsx:(e_ (List.set rs ((e_ n.arcs k).frm).toNat (⟨ad40,cp41,((e_ rs ((e_ n.arcs k).frm)).xs++([((hs.length:Nat):Int)]:List Int))⟩:Row)) (e_ n.arcs k).dst).xs.length<=2*k:=by rw [hsd];exact hb2
   refine C1 kr ?_
   refine Aj (Aq (S5 5 3 20 21 22 C C C C C) (Ap (Bl mixed (Bt (vc 3 (.slice ad39 1 1) (([((hs.length:Nat):Int)]:List Int))::e8 b38 [e7 ((e_ n.arcs k).frm),e7 ((e_ n.arcs k).dst),e7 ((e_ n.arcs k).cap)] 305::vc 336 (.slice ah hs.length ch) (hs)::e8 b [.slice ah hs.length ch,.slice ao (replicate n.nodes.toNat (default:Row)).length co,.slice al (replicate n.nodes.toNat (default:Int)).length cl,.slice an (replicate n.nodes.toNat (default:Int)).length cn,e7 (n.sink)] 339::vc 22 (.slice ao (replicate n.nodes.toNat (default:Row)).length co) (List.set rs ((e_ n.arcs k).frm).toNat (⟨ad40,cp41,((e_ rs ((e_ n.arcs k).frm)).xs++([((hs.length:Nat):Int)]:List Int))⟩:Row))::vc 3 (.slice al (replicate n.nodes.toNat (default:Int)).length cl) (replicate n.nodes.toNat (default:Int))::vc 3 (.slice an (replicate n.nodes.toNat (default:Int)).length cn) (replicate n.nodes.toNat (default:Int))::e8 b1 [e7 (n.nodes),e7 (n.source),e7 (n.sink),v] 303::I) 23 (Dr 0 C (Ad C) (Dr 1 C (Bm C) (Dr 2 C (Ab fld339_1 C) (Dr 3 C (As ty79) ?_))))))))
   refine Dr 4 C (Ab fld305_1 C) (Dr 5 C (As ef) ?_)
   refine Dr 6 C (Ad C) (Dr 7 C (Bm C) (Dr 8 C (Ab fld339_1 C) (Dr 9 C (As ty79) ?_)))
   refine Dr 10 C (Ab fld305_1 C) (Dr 11 C (As ef) ?_)
   refine Dr 12 C (Az (α:=Row) (xs:=List.set rs ((e_ n.arcs k).frm).toNat (⟨ad40,cp41,((e_ rs ((e_ n.arcs k).frm)).xs++([((hs.length:Nat):Int)]:List Int))⟩:Row)) Cl ty22 C C Bk om om) (Dr 13 C (Dj (α:=Row) (xs:=List.set rs ((e_ n.arcs k).frm).toNat (⟨ad40,cp41,((e_ rs ((e_ n.arcs k).frm)).xs++([((hs.length:Nat):Int)]:List Int))⟩:Row)) (u:= .slice (e_ (List.set rs ((e_ n.arcs k).frm).toNat (⟨ad40,cp41,((e_ rs ((e_ n.arcs k).frm)).xs++([((hs.length:Nat):Int)]:List Int))⟩:Row)) ((e_ n.arcs k).dst)).a (e_ (List.set rs ((e_ n.arcs k).frm).toNat (⟨ad40,cp41,((e_ rs ((e_ n.arcs k).frm)).xs++([((hs.length:Nat):Int)]:List Int))⟩:Row)) ((e_ n.arcs k).dst)).xs.length (e_ (List.set rs ((e_ n.arcs k).frm).toNat (⟨ad40,cp41,((e_ rs ((e_ n.arcs k).frm)).xs++([((hs.length:Nat):Int)]:List Int))⟩:Row)) ((e_ n.arcs k).dst)).c) ty22 C Bk om om C) (Dr 14 C (Ad C) (Dr 15 C (Bm C) (Dr 16 C (Ab fld339_0 C) (Dr 17 C (As ty337) ?_)))))
   refine Dr 18 C (Bs Ci C) (Dr 19 C (Rad C C) (Ds1 20 (Se1 C (Cf (α:=Int) (cs:=[_]) (xs:=[((hs.length:Nat):Int)+1]) Ac ef C C dc dc C C C C) λad42=>?_)))
   refine Ds1 21 (Se2 C (Cm (α:=Int) (e:=3) (xs:=(e_ (List.set rs ((e_ n.arcs k).frm).toNat (⟨ad40,cp41,((e_ rs ((e_ n.arcs k).frm)).xs++([((hs.length:Nat):Int)]:List Int))⟩:Row)) ((e_ n.arcs k).dst)).xs) (ys:=([((hs.length:Nat):Int)+1]:List Int)) Ac ef C C C (by repeat (first|exact rowsI_mem (rs:=(List.set rs ((e_ n.arcs k).frm).toNat (⟨ad40,cp41,((e_ rs ((e_ n.arcs k).frm)).xs++([((hs.length:Nat):Int)]:List Int))⟩:Row))) (i:=((e_ n.arcs k).dst)) om om|apply List.mem_cons_of_mem)) Bk lcn dc C (λ_ _=>(by repeat (first|exact At.rows (rs:=(List.set rs ((e_ n.arcs k).frm).toNat (⟨ad40,cp41,((e_ rs ((e_ n.arcs k).frm)).xs++([((hs.length:Nat):Int)]:List Int))⟩:Row))) (i:=((e_ n.arcs k).dst)) om om|apply At.tail)))) λad43 cp44=>?_)
   show D prog κ _ _ _ _ _ _ _ ([(69,.slice ad43 ((e_ (List.set rs ((e_ n.arcs k).frm).toNat (⟨ad40,cp41,((e_ rs ((e_ n.arcs k).frm)).xs++([((hs.length:Nat):Int)]:List Int))⟩:Row)) ((e_ n.arcs k).dst)).xs++([((hs.length:Nat):Int)+1]:List Int)).length cp44),(68,.slice ad42 1 1),(67,e7 (((hs.length:Nat):Int)+1)),(66,e7 ((hs.length:Nat):Int)),(65,.slice ah hs.length ch),(64,.pointer (some ⟨b,0,none⟩)),(63,.pointer (some ⟨b,0,none⟩)),(62,.pointer (some ⟨b,0,none⟩)),(61,.slice (e_ (List.set rs ((e_ n.arcs k).frm).toNat (⟨ad40,cp41,((e_ rs ((e_ n.arcs k).frm)).xs++([((hs.length:Nat):Int)]:List Int))⟩:Row)) ((e_ n.arcs k).dst)).a (e_ (List.set rs ((e_ n.arcs k).frm).toNat (⟨ad40,cp41,((e_ rs ((e_ n.arcs k).frm)).xs++([((hs.length:Nat):Int)]:List Int))⟩:Row)) ((e_ n.arcs k).dst)).xs.length (e_ (List.set rs ((e_ n.arcs k).frm).toNat (⟨ad40,cp41,((e_ rs ((e_ n.arcs k).frm)).xs++([((hs.length:Nat):Int)]:List Int))⟩:Row)) ((e_ n.arcs k).dst)).c),(60,elemPtr (.slice ao (replicate n.nodes.toNat (default:Row)).length co) (((e_ n.arcs k).dst).toNat*Enc.sz Row)),(59,e7 ((e_ n.arcs k).dst)),(58,.pointer (some ⟨b38,1,none⟩)),(57,.slice ao (replicate n.nodes.toNat (default:Row)).length co),(56,.pointer (some ⟨b,1,none⟩)),(55,.pointer (some ⟨b,0,none⟩)),(54,.pointer (some ⟨b,0,none⟩)),(53,e7 ((e_ n.arcs k).dst)),(52,.pointer (some ⟨b38,1,none⟩)),(51,.slice ao (replicate n.nodes.toNat (default:Row)).length co),(50,.pointer (some ⟨b,1,none⟩)),(49,.pointer (some ⟨b,0,none⟩)),(48,.pointer (some ⟨b,0,none⟩)),(5,.pointer (some ⟨b38,0,none⟩)),(3,.pointer (some ⟨b,0,none⟩)),(20,v),(21,e7 ((n.arcs.length:Nat):Int)),(22,e7 ((k:Int)))]:Env) (vc 3 (.slice ad42 1 1) (([((hs.length:Nat):Int)+1]:List Int))::vc 3 (.slice ad39 1 1) (([((hs.length:Nat):Int)]:List Int))::e8 b38 [e7 ((e_ n.arcs k).frm),e7 ((e_ n.arcs k).dst),e7 ((e_ n.arcs k).cap)] 305::vc 336 (.slice ah hs.length ch) (hs)::e8 b [.slice ah hs.length ch,.slice ao (replicate n.nodes.toNat (default:Row)).length co,.slice al (replicate n.nodes.toNat (default:Int)).length cl,.slice an (replicate n.nodes.toNat (default:Int)).length cn,e7 (n.sink)] 339::vc 22 (.slice ao (replicate n.nodes.toNat (default:Row)).length co) (List.set rs ((e_ n.arcs k).frm).toNat (⟨ad40,cp41,((e_ rs ((e_ n.arcs k).frm)).xs++([((hs.length:Nat):Int)]:List Int))⟩:Row))::vc 3 (.slice al (replicate n.nodes.toNat (default:Int)).length cl) (replicate n.nodes.toNat (default:Int))::vc 3 (.slice an (replicate n.nodes.toNat (default:Int)).length cn) (replicate n.nodes.toNat (default:Int))::e8 b1 [e7 (n.nodes),e7 (n.source),e7 (n.sink),v] 303::(rowsI (List.set (List.set rs ((e_ n.arcs k).frm).toNat (⟨ad40,cp41,((e_ rs ((e_ n.arcs k).frm)).xs++([((hs.length:Nat):Int)]:List Int))⟩:Row)) ((e_ n.arcs k).dst).toNat (⟨ad43,cp44,((e_ (List.set rs ((e_ n.arcs k).frm).toNat (⟨ad40,cp41,((e_ rs ((e_ n.arcs k).frm)).xs++([((hs.length:Nat):Int)]:List Int))⟩:Row)) ((e_ n.arcs k).dst)).xs++([((hs.length:Nat):Int)+1]:List Int))⟩:Row))++I))
   refine Dr 22 C (Az (α:=Row) (xs:=List.set rs ((e_ n.arcs k).frm).toNat (⟨ad40,cp41,((e_ rs ((e_ n.arcs k).frm)).xs++([((hs.length:Nat):Int)]:List Int))⟩:Row)) Cl ty22 C C Bk om om) (C0 kr ?_)
   refine Ae 23 C (Cx (α:=Row) (xs:=List.set rs ((e_ n.arcs k).frm).toNat (⟨ad40,cp41,((e_ rs ((e_ n.arcs k).frm)).xs++([((hs.length:Nat):Int)]:List Int))⟩:Row)) (e:=22) (new:=(⟨ad43,cp44,((e_ (List.set rs ((e_ n.arcs k).frm).toNat (⟨ad40,cp41,((e_ rs ((e_ n.arcs k).frm)).xs++([((hs.length:Nat):Int)]:List Int))⟩:Row)) ((e_ n.arcs k).dst)).xs++([((hs.length:Nat):Int)+1]:List Int))⟩:Row)) ty22 C C C om om am) ?_
   rintro _ _ ⟨rfl,rfl⟩
   refine C1 kr ?_
   refine Aj (Aq (S5 5 3 20 21 22 C C C C C) (Bl mixed (Bt (vc 3 (.slice ad42 1 1) (([((hs.length:Nat):Int)+1]:List Int))::vc 3 (.slice ad39 1 1) (([((hs.length:Nat):Int)]:List Int))::e8 b38 [e7 ((e_ n.arcs k).frm),e7 ((e_ n.arcs k).dst),e7 ((e_ n.arcs k).cap)] 305::e8 b [.slice ah hs.length ch,.slice ao (replicate n.nodes.toNat (default:Row)).length co,.slice al (replicate n.nodes.toNat (default:Int)).length cl,.slice an (replicate n.nodes.toNat (default:Int)).length cn,e7 (n.sink)] 339::vc 22 (.slice ao (replicate n.nodes.toNat (default:Row)).length co) (List.set (List.set rs ((e_ n.arcs k).frm).toNat (⟨ad40,cp41,((e_ rs ((e_ n.arcs k).frm)).xs++([((hs.length:Nat):Int)]:List Int))⟩:Row)) ((e_ n.arcs k).dst).toNat (⟨ad43,cp44,((e_ (List.set rs ((e_ n.arcs k).frm).toNat (⟨ad40,cp41,((e_ rs ((e_ n.arcs k).frm)).xs++([((hs.length:Nat):Int)]:List Int))⟩:Row)) ((e_ n.arcs k).dst)).xs++([((hs.length:Nat):Int)+1]:List Int))⟩:Row))::vc 3 (.slice al (replicate n.nodes.toNat (default:Int)).length cl) (replicate n.nodes.toNat (default:Int))::vc 3 (.slice an (replicate n.nodes.toNat (default:Int)).length cn) (replicate n.nodes.toNat (default:Int))::e8 b1 [e7 (n.nodes),e7 (n.source),e7 (n.sink),v] 303::(rowsI (List.set (List.set rs ((e_ n.arcs k).frm).toNat (⟨ad40,cp41,((e_ rs ((e_ n.arcs k).frm)).xs++([((hs.length:Nat):Int)]:List Int))⟩:Row)) ((e_ n.arcs k).dst).toNat (⟨ad43,cp44,((e_ (List.set rs ((e_ n.arcs k).frm).toNat (⟨ad40,cp41,((e_ rs ((e_ n.arcs k).frm)).xs++([((hs.length:Nat):Int)]:List Int))⟩:Row)) ((e_ n.arcs k).dst)).xs++([((hs.length:Nat):Int)+1]:List Int))⟩:Row))++I)) 19 (Dr 0 C (Ad C) (Dr 1 C (Ad C) (Dr 2 C (Bm C) (Dr 3 C (Ab fld339_0 C) (Dr 4 C (As ty337) ?_))))))))
   refine Dr 5 C (Bd (vs:=[_,_,_]) ty305) ?_
   refine Dr 6 C (Ab fld305_2 C) (Dr 7 C (As ef) ?_)
   refine Dr 8 C (Bc (cells:=[_,_,_,_]) ty336 Tryz.underlying336 pl336 C C) (Dr 9 C (Ab fld305_1 C) (Dr 10 C (As ef) ?_))
   refine Dr 11 C (Ab fld305_0 C) (Dr 12 C (As ef) ?_)
   refine Dr 13 C (Bc (cells:=[_,_,_]) ty305 Tryz.underlying305 pl305 C C) (Dr 14 C (Bc (cells:=[_,_,_,_]) ty336 Tryz.underlying336 pl336 C C) (Ds1 15 (Se1 C (Cf (α:=Half) (cs:=[e7 ((e_ n.arcs k).frm),e7 ((e_ n.arcs k).dst),e7 ((e_ n.arcs k).cap),e7 ((e_ n.arcs k).cap),e7 ((e_ n.arcs k).dst),e7 ((e_ n.arcs k).frm),e7 0,e7 0]) (xs:=[⟨(e_ n.arcs k).frm,(e_ n.arcs k).dst,(e_ n.arcs k).cap,(e_ n.arcs k).cap⟩,⟨(e_ n.arcs k).dst,(e_ n.arcs k).frm,0,0⟩]) Ci ty336 C C dc dc C kr C C) λad45=>?_)))
   refine Ds1 16 (Se2 C (Cm (α:=Half) (e:=336) (xs:=hs) (ys:=([⟨(e_ n.arcs k).frm,(e_ n.arcs k).dst,(e_ n.arcs k).cap,(e_ n.arcs k).cap⟩,⟨(e_ n.arcs k).dst,(e_ n.arcs k).frm,0,0⟩]:List Half)) Ci ty336 C C C mm Bk lcn dc C (λ_ _=>am)) λad46 cp47=>?_)
   refine Ds1 17 (Sr C (Bm C) A1 ?_)
   refine Dr 18 C (Ab fld339_0 C) (C0 kr ?_)
   refine Ae 19 C (Ce (cs:=[_,_,_,_,_]) (vs:=[_]) (cs':=[_,_,_,_,_]) ty337) ?_
   rintro _ _ ⟨rfl,rfl⟩
   refine C1 kr ?_
   exact Ak (Aj (Aq (S4 3 20 21 22 C C C C) (Ax (Gr (Rad C C) (Gm C (Bi (B5 ((k+1),(ad46),(cp47),(hs++([⟨(e_ n.arcs k).frm,(e_ n.arcs k).dst,(e_ n.arcs k).cap,(e_ n.arcs k).cap⟩,⟨(e_ n.arcs k).dst,(e_ n.arcs k).frm,0,0⟩]:List Half)),(List.set (List.set rs ((e_ n.arcs k).frm).toNat (⟨ad40,cp41,((e_ rs ((e_ n.arcs k).frm)).xs++([((hs.length:Nat):Int)]:List Int))⟩:Row)) ((e_ n.arcs k).dst).toNat (⟨ad43,cp44,((e_ (List.set rs ((e_ n.arcs k).frm).toNat (⟨ad40,cp41,((e_ rs ((e_ n.arcs k).frm)).xs++([((hs.length:Nat):Int)]:List Int))⟩:Row)) ((e_ n.arcs k).dst)).xs++([((hs.length:Nat):Int)+1]:List Int))⟩:Row))) (by dsimp only;exact ⟨om,(hO.step hok om _ _ _ _ om om C C)⟩))))))))
  ·refine Bv (Al (Al (A5 (Aj (Ai (Gm C (Ga C (Af (A2 ?_)))))))))
   have hdn:=hO.done hok om
   exact A6 C C (e8 b [.slice ah hs.length ch,.slice ao (replicate n.nodes.toNat (default:Row)).length co,.slice al (replicate n.nodes.toNat (default:Int)).length cl,.slice an (replicate n.nodes.toNat (default:Int)).length cn,e7 (n.sink)] 339::vc 336 (.slice ah hs.length ch) (hs)::vc 3 (.slice al (replicate n.nodes.toNat (default:Int)).length cl) (replicate n.nodes.toNat (default:Int))::vc 3 (.slice an (replicate n.nodes.toNat (default:Int)).length cn) (replicate n.nodes.toNat (default:Int))::vc 22 (.slice ao (replicate n.nodes.toNat (default:Row)).length co) (rs)::(rowsI rs++I)) B7 ⟨_,_,_,_,_,hs,rs,(replicate n.nodes.toNat (default:Int)),(replicate n.nodes.toNat (default:Int)),rfl,⟨hdn.1,hdn.2,by rw [List.length_replicate];omega,by rw [List.length_replicate];omega⟩,rfl⟩
theorem Solved_ok{κ:Ctx}{I:List Item}{n:Net}{v:Value}(hl:Sl κ I v n.arcs)(hok:n.Ok):eu prog κ 317 [.agg #[e7 (n.nodes),e7 (n.source),e7 (n.sink),v]] I (λr J=>∃(b:Nat) (hw ow lw nw:Value) (f:List Int) (hs:List Half) (rs:List Row) (L nx:List Int) (val:Int),r = .tuple #[.pointer (some ⟨b,0,none⟩),e7 val]/\(Full n f val/\HOk n f hs/\ROk n (rowsL rs))/\J=e8 b [hw,ow,lw,nw,e7 (n.sink)] 339::vc 336 hw (hs)::vc 3 lw (L)::vc 3 nw (nx)::(vc 22 ow rs::(rowsI rs++I))):=by
 refine Ce1 Tryz.func317 C C ?_
 refine Ai (Ge1 (A9 (cs:=[_,_,_,_]) C C C) λb1=>Ga C (Ga C (Af (Ai (Gl4 ty303 ?_)))))
 refine G.e (Ah call335 C C (Open_ok (n:=n) (Ba hl) hok)) ?_
 rintro _ _ ⟨_,_,⟨b,hw,ow,lw,nw,hs,rs,L,nx,rfl,⟨hh,hr,hL,hN⟩,rfl⟩,rfl,rfl⟩
 refine G.fit (J:=e8 b [hw,ow,lw,nw,e7 (n.sink)] 339::vc 336 hw (hs)::vc 3 lw (L)::vc 3 nw (nx)::vc 22 ow (rs)::e8 b1 [e7 (n.nodes),e7 (n.source),e7 (n.sink),v] 303::(rowsI rs++I)) B7 ?_
 refine Ga C (Af (Ai (Gm C (Gm C (Gf fld303_1 C (Gl ef ?_))))))
 refine G.e (Ah call336 C C (Greatest_ok (n:=n) hok hh hr Bk (λi h0 h=>Cv (rowsI_sl i h0 h) A3) hL hN (flow_zero n hok).1 (flow_zero n hok).2)) ?_
 rintro _ _ ⟨_,_,⟨val,f,hs2,L2,nx2,rfl,⟨hfull,hh2⟩,rfl⟩,rfl,rfl⟩
 show G prog κ _ _ _ _ ([(11,e7 val),(10,e7 (n.source)),(9,.pointer (some ⟨b1,1,none⟩)),(8,.pointer (some ⟨b,0,none⟩)),(7,.pointer (some ⟨b,0,none⟩)),(4,.pointer (some ⟨b,0,none⟩)),(6,.pointer (some ⟨b,0,none⟩)),(5,.agg #[e7 (n.nodes),e7 (n.source),e7 (n.sink),v]),(3,e7 0),(2,.pointer none),(1,.pointer (some ⟨b1,0,none⟩)),(0,.agg #[e7 (n.nodes),e7 (n.source),e7 (n.sink),v])]:Env) (e8 b [hw,ow,lw,nw,e7 (n.sink)] 339::vc 336 hw (hs2)::vc 3 lw (L2)::vc 3 nw (nx2)::vc 22 ow (rs)::e8 b1 [e7 (n.nodes),e7 (n.source),e7 (n.sink),v] 303::(rowsI rs++I))
 exact Ga C (Ga C (Af (Aq (S2 3 2 C C) (A2 (Cu C C C (e8 b [hw,ow,lw,nw,e7 (n.sink)] 339::vc 336 hw (hs2)::vc 3 lw (L2)::vc 3 nw (nx2)::vc 22 ow (rs)::(rowsI rs++I)) B7 ⟨b,hw,ow,lw,nw,f,hs2,rs,L2,nx2,val,rfl,⟨hfull,hh2,hr⟩,rfl⟩)))))
end Go.Sl
namespace Go.Sl
def valN:List Nat->Nat
 |[]=>0
 |b::bs=>2 ^ 8*valN bs+b
theorem and_dig{a b c d:Nat}(hb:b<2 ^ 8)(hd:d<2 ^ 8):(2 ^ 8*a+b) &&& (2 ^ 8*c+d)=2 ^ 8*(a &&& c)+(b &&& d):=by
 refine Nat.eq_of_testBit_eq λj=>?_
 rw [Nat.testBit_and,Nat.testBit_two_pow_mul_add _ hb,Nat.testBit_two_pow_mul_add _ hd,Nat.testBit_two_pow_mul_add _ (Nat.and_lt_two_pow _ hd)]
 by_cases h:j<8
 ·rw [if_pos h,if_pos h,if_pos h,Nat.testBit_and]
 ·rw [if_neg h,if_neg h,if_neg h,Nat.testBit_and]
def repN(c:Nat)(k:Nat):Nat:=valN (replicate k c)
theorem repN_succ(c k:Nat):repN c (k+1)=2 ^ 8*repN c k+c:=rfl
def p1(b:Nat):Nat:=((b / 2) &&& 85)+(b &&& 85)
def p2(b:Nat):Nat:=((b / 4) &&& 51)+(b &&& 51)
def p3(b:Nat):Nat:=(b / 16+b) % 16
theorem c1:∀t:Fin 2,∀x:Fin 128,(128*t.val+x.val) &&& 85=x.val &&& 85:=by decide+kernel
theorem c2:∀t:Fin 4,∀x:Fin 64,(64*t.val+x.val) &&& 51=x.val &&& 51:=by decide+kernel
theorem b1:∀b:Fin 256,p1 b.val<256/\p2 (p1 b.val) % 16<=4/\p2 (p1 b.val) / 16<=4/\p3 (p2 (p1 b.val))<=8/\p3 (p2 (p1 b.val))=((List.range 8).filter λj=>b.val.testBit j).length:=by decide+kernel
theorem step1:∀bs:List Nat,(∀b∈bs,b<256)->((valN bs / 2) &&& repN 85 bs.length)+(valN bs &&& repN 85 bs.length)=valN (bs.map p1)
 |[],_=>rfl
 |b::bs,h=>by
  have hb:=h b List.mem_cons_self
  have ih:=step1 bs λx hx=>h x (List.mem_cons_of_mem _ hx)
  rw [List.length_cons,repN_succ,List.map_cons]
  simp only [valN]
  have e:(2 ^ 8*valN bs+b) / 2=2 ^ 8*(valN bs / 2)+(128*(valN bs % 2)+b / 2):=by omega
  have hc:=c1 ⟨valN bs % 2,by omega⟩ ⟨b / 2,by omega⟩
  simp only at hc
  rw [e,and_dig (by omega) (by decide),and_dig (by omega) (by decide),hc]
  rw [show p1 b=(b / 2 &&& 85)+(b &&& 85) from rfl]
  omega
theorem step2:∀bs:List Nat,(∀b∈bs,b<256)->((valN bs / 4) &&& repN 51 bs.length)+(valN bs &&& repN 51 bs.length)=valN (bs.map p2)
 |[],_=>rfl
 |b::bs,h=>by
  have hb:=h b List.mem_cons_self
  have ih:=step2 bs λx hx=>h x (List.mem_cons_of_mem _ hx)
  rw [List.length_cons,repN_succ,List.map_cons]
  simp only [valN]
  have e:(2 ^ 8*valN bs+b) / 4=2 ^ 8*(valN bs / 4)+(64*(valN bs % 4)+b / 4):=by omega
  have hc:=c2 ⟨valN bs % 4,by omega⟩ ⟨b / 4,by omega⟩
  simp only at hc
  rw [e,and_dig (by omega) (by decide),and_dig (by omega) (by decide),hc]
  rw [show p2 b=(b / 4 &&& 51)+(b &&& 51) from rfl]
  omega
theorem step3:∀bs:List Nat,(∀b∈bs,b % 16<=4/\b / 16<=4)->(valN bs / 16+valN bs) &&& repN 15 bs.length=valN (bs.map p3)
 |[],_=>rfl
 |b::bs,h=>by
  have hb:=h b List.mem_cons_self
  have ih:=step3 bs λx hx=>h x (List.mem_cons_of_mem _ hx)
  have hn:valN bs % 16<=4:=by
   cases bs with
   |nil=>simp [valN]
   |cons c cs=>
    have:=(h c (List.mem_cons_of_mem _ List.mem_cons_self)).1
    simp only [valN];omega
  rw [List.length_cons,repN_succ,List.map_cons]
  simp only [valN]
  have e:(2 ^ 8*valN bs+b) / 16+(2 ^ 8*valN bs+b)=2 ^ 8*(valN bs / 16+valN bs)+(16*(valN bs % 16)+b / 16+b):=by omega
  rw [e,and_dig (by omega) (by decide),ih,show (15:Nat)=2 ^ 4 - 1 by decide,Nat.and_two_pow_sub_one_eq_mod]
  rw [show p3 b=(b / 16+b) % 16 from rfl]
  omega
def bytesN(n:Nat):Nat->List Nat
 |0=>[]
 |k+1=>n % 256::bytesN (n / 256) k
theorem bytesN_len(n k:Nat):(bytesN n k).length=k:=by
 induction k generalizing n with
 |zero=>rfl
 |succ k ih=>simp [bytesN,ih]
theorem bytesN_lt(n k:Nat):∀b∈bytesN n k,b<256:=by
 induction k generalizing n with
 |zero=>intro b hb;cases hb
 |succ k ih=>
  intro b hb
  rcases List.mem_cons.1 hb with rfl|hb
  ·omega
  ·exact ih _ b hb
theorem bytesN_val:∀(k n:Nat),n<256 ^ k->valN (bytesN n k)=n
 |0,n,h=>by simp at h;subst h;rfl
 |k+1,n,h=>by
  rw [Nat.pow_succ] at h
  simp only [bytesN,valN]
  rw [bytesN_val k (n / 256) (by omega)]
  omega
def sumN':List Nat->Nat
 |[]=>0
 |b::bs=>b+sumN' bs
theorem cnt_val:∀bs:List Nat,(∀b∈bs,b<256)->((List.range (8*bs.length)).filter λj=>(valN bs).testBit j).length=sumN' (bs.map λb=>p3 (p2 (p1 b)))
 |[],_=>rfl
 |b::bs,h=>by
  have hb:=h b List.mem_cons_self
  have ih:=cnt_val bs λx hx=>h x (List.mem_cons_of_mem _ hx)
  rw [List.length_cons,show 8*(bs.length+1)=8+8*bs.length by omega,List.range_add,List.filter_append,List.length_append,List.map_cons]
  simp only [sumN',valN]
  rw [←ih,(b1 ⟨b,hb⟩).2.2.2.2,List.filter_map,List.length_map]
  congr 2
  ·refine List.filter_congr λj hj=>?_
   rw [Nat.testBit_two_pow_mul_add _ hb,if_pos (List.mem_range.1 hj)]
  ·refine List.filter_congr λj hj=>?_
   show (2 ^ 8*valN bs+b).testBit (8+j)=_
   rw [Nat.testBit_two_pow_mul_add _ hb,if_neg (by omega),Nat.add_sub_cancel_left]
theorem fold4{d0 d1 d2 m2 m3 n m1 n4:Nat}(h0:d0<=8)(h1:d1<=8)(h2:d2<=8)(en:n=d0+256*d1+65536*m2)(e1:m1=d1+256*d2+65536*m3)(h4:n4=n+m1) :
  n4=(d0+d1)+256*(d1+d2)+65536*(m2+m3)/\n4 / 65536=m2+m3:=by omega
theorem fold5{a b c u n4 n5:Nat}(ha:a<=16)(hb:b<=16)(hc:c<65536)(h4:n4=a+256*b+65536*(c+65536*u))(h5:n5=n4+(c+65536*u)):n5=a+256*b+c+65536*(c+u)+4294967296*u:=by omega
theorem fold6{x c u s t n5:Nat}(hx:x<65536)(hc:c<=5000)(hs:s<=5000)(hu:u=s+65536*t)(h5:n5=x+65536*(c+u)+4294967296*u):n5 / 4294967296=u+t:=by omega
theorem fold_sum{d0 d1 d2 d3 d4 d5 d6 d7 m1 m2 m3 m4 m5 m6 n n4 n5 n6:Nat}(h0:d0<=8)(h1:d1<=8)(h2:d2<=8)(h3:d3<=8)(h4:d4<=8)(h5:d5<=8)(h6:d6<=8)(h7:d7<=8)
  (e6:m6=d6+256*d7) (e5:m5=d5+256*d6+65536*d7) (e4:m4=d4+256*d5+65536*m6) (e3:m3=d3+256*d4+65536*m5) (e2:m2=d2+256*d3+65536*m4) (e1:m1=d1+256*d2+65536*m3) (e0:n=d0+256*d1+65536*m2)
  (g4:n4=n+m1) (g5:n5=n4+n4 / 65536) (g6:n6=n5+n5 / 4294967296):n6 % 128=d0+d1+d2+d3+d4+d5+d6+d7:=by
 obtain ⟨a1,a2⟩:=fold4 h0 h1 h2 e0 e1 g4
 have hc:m2+m3=((d2+d3)+256*(d3+d4))+65536*(m4+m5):=by clear e0 e1 e4 e5 e6 g4 g5 g6 a1 a2;omega
 have hu:m4+m5=((d4+d5)+256*(d5+d6))+65536*(m6+d7):=by clear e0 e1 e2 e3 e6 g4 g5 g6 a1 a2 hc;omega
 rw [a2,hc] at g5
 rw [hc] at a1
 have b1:=fold5 (by omega) (by omega) (by omega) a1 g5
 have b2:=fold6 (x:=d0+d1+256*(d1+d2)+((d2+d3)+256*(d3+d4))) (by omega) (by omega) (by omega) hu b1
 rw [b2] at g6
 clear b2 a2 hc e0 e1 e2 e3 e4 e5 g4 g5 a1
 omega
theorem fold_all{bs:List Nat}{n n4 n5 n6:Nat}(hl:bs.length=8)(hb:∀b∈bs,b<=8)(hn:n=valN bs)(g4:n4=n+n / 256)(g5:n5=n4+n4 / 65536)(g6:n6=n5+n5 / 4294967296):n6 % 128=sumN' bs/\n6<18446744073709551616:=by
 match bs,hl with
 |[d0,d1,d2,d3,d4,d5,d6,d7],_=>
  have k0:=hb d0 (by simp)
  have k1:=hb d1 (by simp)
  have k2:=hb d2 (by simp)
  have k3:=hb d3 (by simp)
  have k4:=hb d4 (by simp)
  have k5:=hb d5 (by simp)
  have k6:=hb d6 (by simp)
  have k7:=hb d7 (by simp)
  obtain ⟨m6,e6⟩:∃m6,m6=d6+256*d7:=⟨_,rfl⟩
  obtain ⟨m5,e5⟩:∃m5,m5=d5+256*d6+65536*d7:=⟨_,rfl⟩
  obtain ⟨m4,e4⟩:∃m4,m4=d4+256*d5+65536*m6:=⟨_,rfl⟩
  obtain ⟨m3,e3⟩:∃m3,m3=d3+256*d4+65536*m5:=⟨_,rfl⟩
  obtain ⟨m2,e2⟩:∃m2,m2=d2+256*d3+65536*m4:=⟨_,rfl⟩
  obtain ⟨m1,e1⟩:∃m1,m1=d1+256*d2+65536*m3:=⟨_,rfl⟩
  have e0:n=d0+256*d1+65536*m2:=by rw [hn];simp only [valN];omega
  have ed:n / 256=m1:=by
   have:n=d0+256*m1:=by clear g4 g5 g6;rw [hn];simp only [valN];omega
   clear e0 e1 e2 e3 e4 e5 e6 g4 g5 g6 hn
   omega
  rw [ed] at g4
  refine ⟨?_,?_⟩
  ·rw [fold_sum k0 k1 k2 k3 k4 k5 k6 k7 e6 e5 e4 e3 e2 e1 e0 g4 g5 g6];simp only [sumN'];omega
  ·have q6:m6<=2056:=by omega
   have q5:m5<=526344:=by omega
   have q4:m4<=134744072:=by clear g4 g5 g6 hn e0 e1 e2 e3 ed;omega
   have q3:m3<=34494482440:=by clear g4 g5 g6 hn e0 e1 e2 e4 ed;omega
   have q2:m2<=8830587504648:=by clear g4 g5 g6 hn e0 e1 e3 e4 e5 e6 ed;omega
   have q1:m1<=2260630401189896:=by clear g4 g5 g6 hn e0 e2 e4 e5 e6 ed;omega
   have q0:n<=578721382704613384:=by clear g4 g5 g6 hn e1 e3 e4 e5 e6 ed;omega
   clear e0 e1 e2 e3 e4 e5 e6 hn ed
   omega
theorem valN_le{c:Nat}:∀bs:List Nat,(∀b∈bs,b<=c)->valN bs<=repN c bs.length
 |[],_=>Nat.le_refl _
 |b::bs,h=>by
  have ih:=valN_le bs λx hx=>h x (List.mem_cons_of_mem _ hx)
  have hb:=h b List.mem_cons_self
  rw [List.length_cons,repN_succ]
  simp only [valN]
  omega
end Go.Sl
namespace Go.Sl
open Go.Proofs
set_option maxRecDepth 4000
variable {κ:Ctx}{I:List Item}
theorem tz_small(m:BitVec 64):0<=tzTab.getD (tzIx m) 0/\tzTab.getD (tzIx m) 0<=64:=by
 have h:∀k:Fin 64,0<=tzTab.getD k.val 0/\tzTab.getD k.val 0<=64:=by decide+kernel
 exact h ⟨tzIx m,tzIx_lt m⟩
theorem Tz_ok(m:BitVec 64)(hT:TabRd κ I 0 tzCells):eu prog κ 234 [U64 m] I (λr J=>r=e7 (tzB m)/\I=J):=by
 refine Ce1 Tryz.func234 C C ?_
 refine Ai (Ga C (Af (Ap (Ai (Gm C (Gr (Runs.eqB (a:=m) (b:=0#64) C C) (Af (A8 C (λc4=>?_) (λc4=>?_)))))))))
 ·exact Ai (Ga C (Af (A2 (Am (A6 C C I A3 ⟨by unfold tzB;rw [if_pos c4],rfl⟩)))))
 ·exact Ay (Aj (Ai (Gm C (Gm C (Gr (Runs.negB (a:=m) C) (Gr (Da (a:=m) (b:= -m) C C) (Gr (Runs.mulB (a:=m &&& (-m)) (b:=285870213051353865#64) C C) (Gr (E7 (a:=(m &&& (-m))*285870213051353865#64) C C om om) (Gr (Runs.idxArrU (i:=tzIx m) Tryz.underlying310 ty5 C C (tzIx_lt m)) (Gr (Runs.loadTab ty5 C (Bx hT A3) (tzCells_at m)) (Gr (Runs.convI Tryz.underlying5 Bj C (by unfold InR;have:=tz_small m;omega)) (Ga C (Af (Aq (S1 2 C) (A2 (A6 C C I A3 ⟨by unfold tzB;rw [if_neg c4],rfl⟩))))))))))))))))
theorem Least_ok(m:BitVec 64)(hT:TabRd κ I 0 tzCells):eu prog κ 238 [U64 m] I (λr J=>r=e7 (tzB m)/\I=J):=by
 refine Ce1 Tryz.func238 C C ?_
 refine Ai (Ga C (Af (Ai (Gm C (G.e (Ah call234 C C (Tz_ok m (Bx hT A3))) ?_)))))
 rintro _ _ ⟨_,_,⟨rfl,rfl⟩,rfl,rfl⟩
 exact Ga C (Af (A2 (A6 C C I A3 ⟨rfl,rfl⟩)))
theorem MList_ok(m:BitVec 64)(hT:TabRd κ I 0 tzCells):eu prog κ 171 [U64 m] I (λr J=>∃a c,r = .slice a (eo m).length c/\J=vc 3 (.slice a (eo m).length c) (eo m)::I):=by
 refine Ce1 Tryz.func171 C C ?_
 refine Ai (Ga C (Af (Ai (Ga C (Af (Ap (A0 (B1 (σ:=(BitVec 64)×(Option Addr)×Nat×(List Int)) (λs=>([(0,U64 (s.1)),(3,.slice s.2.1 s.2.2.2.length s.2.2.1)]:Env)) (λs=>vc 3 (.slice s.2.1 s.2.2.2.length s.2.2.1) (s.2.2.2)::I) (λs=>(eo m=s.2.2.2++eo s.1)) (λs=>(eo s.1).length) (m,none,0,[]) (show (eo m=([]:List Int)++eo (m:BitVec 64)) from rfl) (Aa (Dl C (by first|rfl|simp)) (Aa (Dl C (by first|rfl|simp)) Bp)) (show Fit κ _ (vc 3 (.slice none ([]).length 0) (([]))::I) from (B2 _ _)) ?_))))))))
 rintro ⟨n,a,c,out⟩ hp
 dsimp only at hp ⊢
 have ho:=hp
 have hol:=congrArg List.length ho
 rw [List.length_append] at hol
 have hml:=E5 m
 refine Ap (Ai (Gm C (Gr (Runs.neB (a:=n) (b:=0#64) C C) (Af (A8 C (λc5=>?_) (λc5=>?_))))))
 ·refine Ay (Aj (Ap (A0 (Ax (Gm C (Gm C (G.e (Ah call234 C C (Tz_ok n (Bx hT A3))) ?_)))))))
  rintro _ _ ⟨_,_,⟨rfl,rfl⟩,rfl,rfl⟩
  refine Ge1 (Cf (α:=Int) (cs:=[_]) (xs:=[tzB n]) Ac ef C C dc dc C C C C) λad1=>?_
  refine Ge2 (Cm (α:=Int) (e:=3) (xs:=out) (ys:=([tzB n]:List Int)) Ac ef C C C mm Bk lcn dc C (λ_ _=>am)) λad2 cp3=>?_
  exact Ga C (Bi (Ak (Aj (Ax (Gm C (Gm C (Gr (Runs.subB (a:=n) (b:=1#64) C C) (Gr (Da (a:=n) (b:=n - (1#64)) C C) (Ga C (Bi (B5 ((n &&& (n - (1#64))),(ad2),(cp3),(out++([tzB n]:List Int))) (by dsimp only;exact (by rw [ho,listB_step c5,List.append_assoc];rfl)) (hlt:=by (try dsimp only);exact (listB_less c5)))))))))))))
 ·refine Bv (Al (Al (A5 (Aj (Ai (Gm C (Ga C (Af (A2 ?_)))))))))
  have hn0:n=0#64:=Classical.not_not.1 c5
  have hE:out=eo m:=by rw [ho,hn0,Df,List.append_nil]
  subst hE
  exact A6 C C (vc 3 (.slice a (eo m).length c) (eo m)::I) A1 ⟨a,c,rfl,rfl⟩
theorem ones1_val{m:BitVec 64}{bs:List Nat}(hl:bs.length=8)(hb:∀b∈bs,b<256)(hm:m.toNat=valN bs):(ones1 m).toNat=valN (bs.map p1):=by
 unfold ones1
 have hle:valN (bs.map p1)<=repN 255 8:=by
  have:=valN_le (c:=255) (bs.map p1) λb h=>by obtain ⟨x,hx,rfl⟩:=List.mem_map.1 h;have:=(b1 ⟨x,hb x hx⟩).1;simp only at this;omega
  rwa [List.length_map,hl] at this
 rw [BitVec.toNat_add,BitVec.toNat_and,BitVec.toNat_and,BitVec.toNat_ushiftRight,Nat.shiftRight_eq_div_pow,show 2 ^ (1:Int).toNat=2 from rfl,hm,show (6148914691236517205#64).toNat=repN 85 bs.length by rw [hl];decide+kernel,step1 bs hb]
 exact Nat.mod_eq_of_lt (Nat.lt_of_le_of_lt hle (by decide+kernel))
theorem ones2_val{m:BitVec 64}{bs:List Nat}(hl:bs.length=8)(hb:∀b∈bs,b<256/\p2 b<256)(hm:m.toNat=valN bs):(ones2 m).toNat=valN (bs.map p2):=by
 unfold ones2
 have hle:valN (bs.map p2)<=repN 255 8:=by
  have:=valN_le (c:=255) (bs.map p2) λb h=>by obtain ⟨x,hx,rfl⟩:=List.mem_map.1 h;have:=(hb x hx).2;omega
  rwa [List.length_map,hl] at this
 rw [BitVec.toNat_add,BitVec.toNat_and,BitVec.toNat_and,BitVec.toNat_ushiftRight,Nat.shiftRight_eq_div_pow,show 2 ^ (2:Int).toNat=4 from rfl,hm,show (3689348814741910323#64).toNat=repN 51 bs.length by rw [hl];decide+kernel,step2 bs λb h=>(hb b h).1]
 exact Nat.mod_eq_of_lt (Nat.lt_of_le_of_lt hle (by decide+kernel))
theorem ones3_val{m:BitVec 64}{bs:List Nat}(hl:bs.length=8)(hb:∀b∈bs,b % 16<=4/\b / 16<=4)(hm:m.toNat=valN bs):(ones3 m).toNat=valN (bs.map p3):=by
 unfold ones3
 have hle:valN bs<=repN 68 8:=by
  have:=valN_le (c:=68) bs λb h=>by have:=hb b h;omega
  rwa [hl] at this
 have hr:repN 68 8=4919131752989213764:=by decide+kernel
 rw [BitVec.toNat_and,BitVec.toNat_add,BitVec.toNat_ushiftRight,Nat.shiftRight_eq_div_pow,show 2 ^ (4:Int).toNat=16 from rfl,hm,show (1085102592571150095#64).toNat=repN 15 bs.length by rw [hl];decide+kernel,Nat.mod_eq_of_lt om,step3 bs hb]
theorem ones_pop(m:BitVec 64):onesB m=((eo m).length:Int):=by
 unfold onesB
 have hl:=bytesN_len m.toNat 8
 have hlt:=bytesN_lt m.toNat 8
 have hv:=bytesN_val 8 m.toNat (Nat.lt_of_lt_of_le m.isLt dc)
 generalize bytesN m.toNat 8=bs at hl hlt hv
 have hb:=λb (h:b∈bs)=>b1 ⟨b,hlt b h⟩
 have e1:=ones1_val hl hlt hv.symm
 have e2:=ones2_val (bs:=bs.map p1) (by rw [List.length_map,hl]) (λb h=>by obtain ⟨x,hx,rfl⟩:=List.mem_map.1 h;have:=hb x hx;simp only at this;exact ⟨this.1,by omega⟩) e1
 have e3:=ones3_val (bs:=(bs.map p1).map p2) (by rw [List.length_map,List.length_map,hl]) (λb h=>by obtain ⟨y,hy,rfl⟩:=List.mem_map.1 h;obtain ⟨x,hx,rfl⟩:=List.mem_map.1 hy;have:=hb x hx;simp only at this;exact ⟨this.2.1,this.2.2.1⟩) e2
 generalize ones3 (ones2 (ones1 m))=a at e3
 have hc:valN bs=m.toNat:=hv
 have hcnt:=cnt_val bs hlt
 obtain ⟨f1,f2⟩:=fold_all (n:=a.toNat) (n4:=a.toNat+a.toNat / 256) (n5:=a.toNat+a.toNat / 256+(a.toNat+a.toNat / 256) / 65536) (n6:=a.toNat+a.toNat / 256+(a.toNat+a.toNat / 256) / 65536+(a.toNat+a.toNat / 256+(a.toNat+a.toNat / 256) / 65536) / 4294967296)
  (bs:=((bs.map p1).map p2).map p3) (by rw [List.length_map,List.length_map,List.length_map,hl]) (λb h=>by obtain ⟨z,hz,rfl⟩:=List.mem_map.1 h;obtain ⟨y,hy,rfl⟩:=List.mem_map.1 hz;obtain ⟨x,hx,rfl⟩:=List.mem_map.1 hy;have:=hb x hx;simp only at this;exact this.2.2.2.1) e3 rfl rfl rfl
 have g4:(ones4 a).toNat=a.toNat+a.toNat / 256:=by
  unfold ones4;rw [BitVec.toNat_add,BitVec.toNat_ushiftRight,Nat.shiftRight_eq_div_pow,show 2 ^ (8:Int).toNat=256 from rfl];exact Nat.mod_eq_of_lt om
 have g5:(ones5 (ones4 a)).toNat=a.toNat+a.toNat / 256+(a.toNat+a.toNat / 256) / 65536:=by
  unfold ones5;rw [BitVec.toNat_add,BitVec.toNat_ushiftRight,Nat.shiftRight_eq_div_pow,show 2 ^ (16:Int).toNat=65536 from rfl,g4];exact Nat.mod_eq_of_lt om
 have g6:(ones6 (ones5 (ones4 a))).toNat=a.toNat+a.toNat / 256+(a.toNat+a.toNat / 256) / 65536+(a.toNat+a.toNat / 256+(a.toNat+a.toNat / 256) / 65536) / 4294967296:=by
  unfold ones6;rw [BitVec.toNat_add,BitVec.toNat_ushiftRight,Nat.shiftRight_eq_div_pow,show 2 ^ (32:Int).toNat=4294967296 from rfl,g5];exact Nat.mod_eq_of_lt om
 have hL:(eo m).length=sumN' (((bs.map p1).map p2).map p3):=by
  unfold eo listN
  rw [List.length_map,List.map_map,List.map_map,show (λi=>m.getLsbD i)=λj=>(valN bs).testBit j from by funext j;rw [hc];rfl]
  rw [hl] at hcnt
  exact hcnt
 rw [g6,hL,←f1]
 omega
variable {κ:Ctx}{I:List Item}
def meetL(xs ys:List Int):List Int:=(ofL xs).filter λx=>decide (x∈ys)
theorem mem_meetL{xs ys:List Int}{x:Int}:x∈meetL xs ys↔x∈xs/\x∈ys:=by simp [meetL,mem_ofL]
def rangeI(n:Int):List Int:=(List.range (min n 64).toNat).map λj:Nat=>(j:Int)
theorem mem_rangeI{n x:Int}:x∈rangeI n↔0<=x/\x<n/\x<64:=by
 unfold rangeI
 rw [List.mem_map]
 constructor
 ·rintro ⟨j,hj,rfl⟩;rw [List.mem_range] at hj;omega
 ·rintro ⟨h1,h2,h3⟩;exact ⟨x.toNat,by rw [List.mem_range];omega,by omega⟩
theorem Meet_ok{u v:Value}{xs ys:List Int}(hu:Sl κ I u xs)(hv:Sl κ I v ys)(hb:xs.length<17592186044415):eu prog κ 134 [u,v] I (λr J=>∃a c,r = .slice a (meetL xs ys).length c/\J=vc 3 (.slice a (meetL xs ys).length c) (meetL xs ys)::I):=by
 have hol:=ofL_len xs
 refine Ce2 Tryz.func134 C C ?_
 refine Ai (Ga C (Af (Ai (Ga C (Af (Ap (Ai (Gm C (Gc2 (Ah call82 C C (Of_ok (Ba hu) om)) λad1 cp2=>?_)))))))))
 refine Gr (Bs Ac C) (Gm C (Af (A0 (B1 (σ:=Nat×(Option Addr)×Nat×(List Int)) (λs=>([(1,v),(5,.slice s.2.1 s.2.2.2.length s.2.2.1),(9,.slice ad1 (ofL xs).length cp2),(10,e7 ((((ofL xs).length:Nat):Int))),(11,e7 ((s.1:Nat):Int))]:Env)) (λs=>vc 3 (.slice s.2.1 s.2.2.2.length s.2.2.1) (s.2.2.2)::vc 3 (.slice ad1 (ofL xs).length cp2) (ofL xs)::I) (λs=>(s.1<=(ofL xs).length)/\(s.2.2.2=((ofL xs).take s.1).filter (λx=>decide (x∈ys)))) (λs=>(ofL xs).length - s.1) (0,none,0,[]) (show ((0:Nat)<=(ofL xs).length)/\(([]:List Int)=((ofL xs).take (0:Nat)).filter (λx=>decide (x∈ys))) from ⟨om,rfl⟩) (Aa C (Aa (Dl C (by first|rfl|simp)) (Aa C (Aa C (Aa Ca Bp))))) (show Fit κ _ (vc 3 (.slice none ([]).length 0) (([]))::vc 3 (.slice ad1 (ofL xs).length cp2) (ofL xs)::I) from (B2 _ _)) ?_))))
 rintro ⟨k,a,c,out⟩ hp
 dsimp only at hp ⊢
 obtain ⟨hk,ho⟩:=hp
 refine Ai (Gr (A7 C C) (Af (Ap (A8 C (λc12=>?_) (λc12=>?_)))))
 ·refine Ay (Aj (Ap (A0 (Ai (Gr (Az (α:=Int) (xs:=ofL xs) Ac ef C C Bk om om) (Gr (Bo (xs:=ofL xs) ef C Bk om om) (Ga C (Af (Ai (Gm C (Gm C (Gc0 (Ah call72 C C (RHas_ok (Ba hv) (e_ (ofL xs) k))) ?_))))))))))))
  refine Af (A8 C (λc17=>?_) (λc17=>?_))
  ·refine Ax (Gm C (Gm C (Ge1 (Cf (α:=Int) (cs:=[_]) (xs:=[e_ (ofL xs) k]) Ac ef C C dc dc C C C C) λad3=>?_)))
   refine Ge2 (Cm (α:=Int) (e:=3) (xs:=out) (ys:=([e_ (ofL xs) k]:List Int)) Ac ef C C C mm Bk (by have:=ofL_len xs;simp only [List.length_cons,List.length_nil];rw [ho];have:=filter_take_len (ofL xs) (λx=>decide (x∈ys)) k;omega) dc C (λ_ _=>am)) λad4 cp5=>?_
   exact Ga C (Bi (Ak (Aj (Aq (S5 5 1 9 10 11 C C C C C) (Ax (Gr (Rad C C) (Gm C (Bi (B5 ((k+1),(ad4),(cp5),(out++([e_ (ofL xs) k]:List Int))) (by dsimp only;exact ⟨om,(by first|rw [filter_take_yes _ _ k om (decide_eq_true c17),←ho]|rw [filter_take_no _ _ k om (decide_eq_false c17),←ho])⟩))))))))))
  ·exact Ay (Ak (Aj (Ax (Gr (Rad C C) (Gm C (Bi (B5 ((k+1),(a),(c),(out)) (by dsimp only;exact ⟨om,(by first|rw [filter_take_yes _ _ k om (decide_eq_true c17),←ho]|rw [filter_take_no _ _ k om (decide_eq_false c17),←ho])⟩))))))))
 ·refine Bv (Al (Al (A5 (Aj (Ai (Gm C (Ga C (Af (A2 ?_)))))))))
  have hk2:(ofL xs).take k=ofL xs:=List.take_of_length_le om
  rw [hk2] at ho
  have ho2:out=meetL xs ys:=ho
  subst ho2
  exact A6 C C (vc 3 (.slice a (meetL xs ys).length c) (meetL xs ys)::I) A1 ⟨a,c,rfl,rfl⟩
theorem Range_ok(n:Int):eu prog κ 135 [e7 n] I (λr J=>∃a c,r = .slice a (rangeI n).length c/\J=vc 3 (.slice a (rangeI n).length c) (rangeI n)::I):=by
 refine Ce1 Tryz.func135 C C ?_
 refine Ai (Ga C (Af (Ai (Ga C (Af (Ap (Ai (Ga C (Af (A0 (B1 (σ:=Nat×(Option Addr)×Nat×(List Int)) (λs=>([(0,e7 n),(3,.slice s.2.1 s.2.2.2.length s.2.2.1),(4,e7 ((s.1:Nat):Int))]:Env)) (λs=>vc 3 (.slice s.2.1 s.2.2.2.length s.2.2.1) (s.2.2.2)::I) (λs=>(s.1<=(min n 64).toNat)/\(s.2.2.2=(List.range s.1).map λj:Nat=>(j:Int))) (λs=>(min n 64).toNat - s.1) (0,none,0,[]) (show ((0:Nat)<=(min n 64).toNat)/\(([]:List Int)=(List.range (0:Nat)).map λj:Nat=>(j:Int)) from ⟨om,rfl⟩) (Aa C (Aa (Dl C (by first|rfl|simp)) (Aa Ca Bp))) (show Fit κ _ (vc 3 (.slice none ([]).length 0) (([]))::I) from (B2 _ _)) ?_)))))))))))
 rintro ⟨k,a,c,out⟩ hp
 dsimp only at hp ⊢
 obtain ⟨hk,ho⟩:=hp
 have hol:out.length=k:=by rw [ho];simp
 refine Ap (Ai (Gm C (Gm C (Gr (A7 C C) (Gm C (Bg (d:=8) C (λg8=>?_) (λg8=>?_)))))))
 ·refine e9 (Ad C) (e9 (A7 C C) (Gr (Ar C C) (Af (A8 C (λc11=>?_) (λc11=>?_)))))
  ·refine Ay (Aj (Ap (A0 (Ax (Gm C (Gm C (Ge1 (Cf (α:=Int) (cs:=[_]) (xs:=[(k:Int)]) Ac ef C C dc dc C C C C) λad1=>?_)))))))
   refine Ge2 (Cm (α:=Int) (e:=3) (xs:=out) (ys:=([(k:Int)]:List Int)) Ac ef C C C mm Bk lcn dc C (λ_ _=>am)) λad2 cp3=>?_
   exact Ga C (Bi (Ak (Aj (Aq (S3 3 0 4 C C C) (Ax (Gm C (Gr (Rad C C) (Ga C (Bi (B5 ((k+1),(ad2),(cp3),(out++([(k:Int)]:List Int))) (by dsimp only;exact ⟨om,(by rw [List.range_succ,List.map_append,←ho];rfl)⟩)))))))))))
  ·refine Bv (Al (Al (A5 (Aj (Ai (Gm C (Ga C (Af (A2 ?_)))))))))
   have ho2:out=rangeI n:=by rw [ho];unfold rangeI;congr 2;omega
   subst ho2
   exact A6 C C (vc 3 (.slice a (rangeI n).length c) (rangeI n)::I) A1 ⟨a,c,rfl,rfl⟩
 ·refine eb (eb (Gr (Ao C C) (Af (C2 C (Bv (Al (Al (A5 (Aj (Ai (Gm C (Ga C (Af (A2 ?_))))))))))))))
  have ho2:out=rangeI n:=by rw [ho];unfold rangeI;congr 2;omega
  subst ho2
  exact A6 C C (vc 3 (.slice a (rangeI n).length c) (rangeI n)::I) A1 ⟨a,c,rfl,rfl⟩
end Go.Sl
namespace Go.Sl
def reachL(rows:List (BitVec 64))(w:BitVec 64):Nat->BitVec 64->BitVec 64->BitVec 64
 |0,_,frm=>frm
 |n+1,front,frm=>if front=0#64 then frm else reachL rows w n ((front &&& (front - 1#64)) ||| (e_ rows (tzB front) &&& w &&& ~~~frm)) (frm ||| (e_ rows (tzB front) &&& w &&& ~~~frm))
def reachB(rows:List (BitVec 64))(f w:BitVec 64):BitVec 64:=reachL rows w 64 (f &&& w) (f &&& w)
structure ReachI (rows:List (BitVec 64)) (f w front frm:BitVec 64):Prop where
 start:∀i:Nat,(f &&& w).getLsbD i=true->frm.getLsbD i=true
 sub:∀i:Nat,frm.getLsbD i=true->w.getLsbD i=true
 fsub:∀i:Nat,front.getLsbD i=true->frm.getLsbD i=true
 closed:∀i j:Nat,frm.getLsbD i=true->front.getLsbD i=false->(e_ rows i).getLsbD j=true->w.getLsbD j=true->frm.getLsbD j=true
 least:∀X:Nat->Prop,(∀i:Nat,(f &&& w).getLsbD i=true->X i)->(∀i j:Nat,X i->w.getLsbD i=true->(e_ rows i).getLsbD j=true->w.getLsbD j=true->X j)->∀i:Nat,frm.getLsbD i=true->X i
structure ReachP (rows:List (BitVec 64)) (f w M:BitVec 64):Prop where
 start:∀i:Nat,(f &&& w).getLsbD i=true->M.getLsbD i=true
 sub:∀i:Nat,M.getLsbD i=true->w.getLsbD i=true
 closed:∀i j:Nat,M.getLsbD i=true->(e_ rows i).getLsbD j=true->w.getLsbD j=true->M.getLsbD j=true
 least:∀X:Nat->Prop,(∀i:Nat,(f &&& w).getLsbD i=true->X i)->(∀i j:Nat,X i->w.getLsbD i=true->(e_ rows i).getLsbD j=true->w.getLsbD j=true->X j)->∀i:Nat,M.getLsbD i=true->X i
theorem ReachP.uniq{rows:List (BitVec 64)}{f w M N:BitVec 64}(h:ReachP rows f w M)(k:ReachP rows f w N):M=N:=by
 refine BitVec.eq_of_getLsbD_eq λi _=>?_
 have e1:=h.least (λi=>N.getLsbD i=true) k.start (λi j a _ b c=>k.closed i j a b c) i
 have e2:=k.least (λi=>M.getLsbD i=true) h.start (λi j a _ b c=>h.closed i j a b c) i
 cases h1:M.getLsbD i<;>cases h2:N.getLsbD i<;>simp_all
theorem ReachI.begin{rows:List (BitVec 64)}{f w:BitVec 64}:ReachI rows f w (f &&& w) (f &&& w):=
 ⟨λi h=>h,λi h=>by rw [BitVec.getLsbD_and,Bool.and_eq_true] at h;exact h.2,λi h=>h,λi j h h'=>absurd h (by rw [h'];decide),λX h _ i hi=>h i hi⟩
theorem ReachI.done{rows:List (BitVec 64)}{f w M:BitVec 64}(h:ReachI rows f w 0#64 M):ReachP rows f w M:=
 ⟨h.start,h.sub,λi j a b c=>h.closed i j a (by simp) b c,h.least⟩
def reachM(w front frm:BitVec 64):Nat:=(listN (w &&& ~~~(frm &&& ~~~front))).length
theorem listN_lt{a b:BitVec 64}(h:∀i:Nat,a.getLsbD i=true->b.getLsbD i=true){k:Nat}(ha:a.getLsbD k=false)(hb:b.getLsbD k=true):(listN a).length<(listN b).length:=by
 have hn:(k::listN a).Nodup:=List.nodup_cons.2 ⟨λhm=>by {rw [mem_listN,ha] at hm;exact absurd hm (by decide)},(listN_asc a).imp λh=>by omega⟩
 exact List.Nodup.length_le_of_subset hn λi hi=>by
  rcases List.mem_cons.1 hi with rfl|h1
  ·exact mem_listN.2 hb
  ·exact mem_listN.2 (h i (mem_listN.1 h1))
theorem ReachI.step{rows:List (BitVec 64)}{f w front frm:BitVec 64}(h:ReachI rows f w front frm)(hf:front≠0#64) :
  ReachI rows f w ((front &&& (front - 1#64)) ||| (e_ rows (tzB front) &&& w &&& ~~~frm)) (frm ||| (e_ rows (tzB front) &&& w &&& ~~~frm))/\reachM w ((front &&& (front - 1#64)) ||| (e_ rows (tzB front) &&& w &&& ~~~frm)) (frm ||| (e_ rows (tzB front) &&& w &&& ~~~frm))<reachM w front frm:=by
 obtain ⟨k,hk,hkb,hlt,he,hp⟩:=least_bit hf
 have htz:tzB front=(k:Int):=tzB_eq hf hk he
 rw [htz]
 have hf1:∀i:Nat,(frm ||| (e_ rows k &&& w &&& ~~~frm)).getLsbD i=true↔(frm.getLsbD i=true\/((e_ rows k).getLsbD i=true/\w.getLsbD i=true)):=λi=>by
  by_cases hi:i<64
  ·simp only [BitVec.getLsbD_or,BitVec.getLsbD_and,BitVec.getLsbD_not,hi,decide_true,Bool.true_and]
   cases frm.getLsbD i<;>simp
  ·simp [BitVec.getLsbD_of_ge _ _ (show 64<=i by omega)]
 have hf2:∀i:Nat,((front &&& (front - 1#64)) ||| (e_ rows k &&& w &&& ~~~frm)).getLsbD i=true↔((front.getLsbD i=true/\i≠k)\/((e_ rows k).getLsbD i=true/\w.getLsbD i=true/\frm.getLsbD i=false)):=λi=>by
  by_cases hi:i<64
  ·simp only [BitVec.getLsbD_or,BitVec.getLsbD_and,BitVec.getLsbD_not,hi,decide_true,Bool.true_and]
   have:=hp i
   rw [BitVec.getLsbD_and] at this
   rw [this]
   cases frm.getLsbD i<;>simp
  ·simp [BitVec.getLsbD_of_ge _ _ (show 64<=i by omega)]
 have hkf:=h.fsub k hkb
 have hkw:=h.sub k hkf
 refine ⟨⟨λi hi=>(hf1 i).2 (.inl (h.start i hi)),λi hi=>?_,λi hi=>?_,λi j hi hj hr hw=>?_,λX h1 h2 i hi=>?_⟩,?_⟩
 ·rcases (hf1 i).1 hi with h1|h1
  ·exact h.sub i h1
  ·exact h1.2
 ·rcases (hf2 i).1 hi with h1|h1
  ·exact (hf1 i).2 (.inl (h.fsub i h1.1))
  ·exact (hf1 i).2 (.inr ⟨h1.1,h1.2.1⟩)
 ·have hn:¬((front.getLsbD i=true/\i≠k)\/((e_ rows k).getLsbD i=true/\w.getLsbD i=true/\frm.getLsbD i=false)):=λhh=>by rw [(hf2 i).2 hh] at hj;cases hj
  by_cases hik:i=k
  ·subst hik;exact (hf1 j).2 (.inr ⟨hr,hw⟩)
  ·rcases (hf1 i).1 hi with h1|h1
   ·have h3:front.getLsbD i=false:=by
     cases h4:front.getLsbD i
     ·rfl
     ·exact absurd (.inl ⟨h4,hik⟩) hn
    exact (hf1 j).2 (.inl (h.closed i j h1 h3 hr hw))
   ·have h3:frm.getLsbD i=true:=by
     cases h4:frm.getLsbD i
     ·exact absurd (.inr ⟨h1.1,h1.2,h4⟩) hn
     ·rfl
    have h3':front.getLsbD i=false:=by
     cases h4:front.getLsbD i
     ·rfl
     ·exact absurd (.inl ⟨h4,hik⟩) hn
    exact (hf1 j).2 (.inl (h.closed i j h3 h3' hr hw))
 ·rcases (hf1 i).1 hi with h3|h3
  ·exact h.least X h1 h2 i h3
  ·exact h2 k i (h.least X h1 h2 k hkf) hkw h3.1 h3.2
 ·unfold reachM
  have hx:∀(a b:BitVec 64) (i:Nat),(w &&& ~~~(b &&& ~~~a)).getLsbD i=true↔(w.getLsbD i=true/\¬(b.getLsbD i=true/\a.getLsbD i=false)):=λa b i=>by
   by_cases hi:i<64
   ·simp only [BitVec.getLsbD_and,BitVec.getLsbD_not,hi,decide_true,Bool.true_and]
    cases a.getLsbD i<;>cases b.getLsbD i<;>simp
   ·simp [BitVec.getLsbD_of_ge _ _ (show 64<=i by omega)]
  refine listN_lt (k:=k) (λi hi=>?_) ?_ ((hx _ _ _).2 ⟨hkw,λhh=>by rw [hkb] at hh;exact absurd hh.2 (by decide)⟩)
  ·obtain ⟨h1,h2⟩:=(hx _ _ _).1 hi
   refine (hx _ _ _).2 ⟨h1,λhh=>h2 ⟨(hf1 i).2 (.inl hh.1),?_⟩⟩
   cases h4:((front &&& (front - 1#64)) ||| (e_ rows k &&& w &&& ~~~frm)).getLsbD i
   ·rfl
   ·rcases (hf2 i).1 h4 with h5|h5
    ·rw [hh.2] at h5;exact absurd h5.1 (by decide)
    ·rw [hh.1] at h5;exact absurd h5.2.2 (by decide)
  ·rw [←Bool.not_eq_true]
   intro hh
   refine ((hx _ _ _).1 hh).2 ⟨(hf1 k).2 (.inl hkf),?_⟩
   cases h4:((front &&& (front - 1#64)) ||| (e_ rows k &&& w &&& ~~~frm)).getLsbD k
   ·rfl
   ·rcases (hf2 k).1 h4 with h5|h5
    ·exact absurd rfl h5.2
    ·rw [hkf] at h5;exact absurd h5.2.2 (by decide)
theorem ReachI.ends{rows:List (BitVec 64)}{f w:BitVec 64}:∀(n:Nat) (front frm:BitVec 64),ReachI rows f w front frm->reachM w front frm<=n->ReachP rows f w (reachL rows w n front frm)
 |0,front,frm,h,hm=>by
  have hz:front=0#64:=Classical.byContradiction λhf=>by have:=(h.step hf).2;omega
  subst hz;exact h.done
 |n+1,front,frm,h,hm=>by
  unfold reachL
  by_cases hf:front=0#64
  ·rw [if_pos hf];subst hf;exact h.done
  ·rw [if_neg hf];exact ReachI.ends n _ _ (h.step hf).1 (by have:=(h.step hf).2;omega)
theorem reachB_ok(rows:List (BitVec 64))(f w:BitVec 64):ReachP rows f w (reachB rows f w):=ReachI.ends 64 _ _ .begin (listN_len _)
theorem ReachI.eq{rows:List (BitVec 64)}{f w M:BitVec 64}(h:ReachI rows f w 0#64 M):M=reachB rows f w:=h.done.uniq (reachB_ok rows f w)
end Go.Sl
namespace Go.Sl
end Go.Sl
namespace Go.Sl
end Go.Sl
