/- A part of the proofs of statements of this seat: contracts of functions, and the plain laws that they lean on. No conditions. -/
import Derived.Test.YtfkcohmipjhfcaaGreatDoorK11
set_option linter.unusedVariables false
set_option linter.unusedSimpArgs false
set_option linter.unusedSectionVars false
open Go.Proofs.Tryz (prog)
open List (replicate)
namespace Go.Sl
open Go.Proofs
set_option maxRecDepth 4000
instance:Enc Half:=⟨λh=>[e7 h.frm,e7 h.dst,e7 h.cap,e7 h.left],4,by omega,λ_=>rfl,λh u hu=>by
 simp only [List.mem_cons,List.not_mem_nil,or_false] at hu
 rcases hu with rfl|rfl|rfl|rfl<;>rfl⟩
structure Row where
 a:Option Addr
 c:Nat
 xs:List Int
deriving Inhabited
instance:Enc Row:=⟨λr=>[.slice r.a r.xs.length r.c],1,by omega,λ_=>rfl,λr u hu=>by
 simp only [List.mem_cons,List.not_mem_nil,or_false] at hu
 subst hu;rfl⟩
def rowsL(rs:List Row):List (List Int):=rs.map Row.xs
theorem rowsL_at(rs:List Row)(v:Int):e_ (rowsL rs) v=(e_ rs v).xs:=by
 unfold rowsL e_
 simp only [List.getD_eq_getElem?_getD,List.getElem?_map]
 cases rs[v.toNat]? <;>rfl
section
variable {n:Net}{f L todo:List Int}{rs:List Row}{x i v:Int}{q:Nat}{hs:List Half}
theorem ROk.rl(h:ROk n (rowsL rs)):(rs.length:Int)=n.nodes:=by have:=h.len;unfold rowsL at this;rwa [List.length_map] at this
theorem ROk.row(h:ROk n (rowsL rs))(h0:0<=v)(h1:v<n.nodes){j:Int}(hj0:0<=j)(hj:j<(e_ rs v).xs.length):InH n (e_ (e_ rs v).xs j)/\fromH n (e_ (e_ rs v).xs j)=v:=by
 have:=h.all v h0 h1 (e_ (e_ rs v).xs j)
 rw [rowsL_at] at this
 exact this (Bf hj0 hj)
theorem lay_step{L1 nx1:List Int}{k:Nat}(h:∀j:Nat,j<k->e_ L1 j = -1/\e_ nx1 j=0)(hk:k<L1.length)(hk2:k<nx1.length) :
  ∀j:Nat,j<k+1->e_ (List.set L1 ((k:Nat):Int).toNat (-1)) (j:Int) = -1/\e_ (List.set nx1 ((k:Nat):Int).toNat 0) (j:Int)=0:=λj hj=>by
 rw [Int.toNat_natCast,at_setn L1 k j _ hk,at_setn nx1 k j _ hk2]
 by_cases e:k=j
 ·rw [if_pos e,if_pos e];exact ⟨rfl,rfl⟩
 ·rw [if_neg e,if_neg e];exact h j om
theorem LI.inc1(h:LI n f (rowsL rs) L todo x q)(hd:0<leftH n f (e_ (e_ rs x).xs (q:Int))->0<=e_ L (toH n (e_ (e_ rs x).xs (q:Int)))):LI n f (rowsL rs) L todo x (q+1):=h.inc (by rw [rowsL_at];exact hd)
theorem LI.put1(hok:n.Ok)(h:LI n f (rowsL rs) L todo x q)(hx:0<=x)(hi:InH n (e_ (e_ rs x).xs (q:Int))/\fromH n (e_ (e_ rs x).xs (q:Int))=x)(hl:0<leftH n f (e_ (e_ rs x).xs (q:Int)))(hn:e_ L (toH n (e_ (e_ rs x).xs (q:Int)))<0) :
  LI n f (rowsL rs) (L.set (toH n (e_ (e_ rs x).xs (q:Int))).toNat (e_ L x+1)) (todo++[toH n (e_ (e_ rs x).xs (q:Int))]) x (q+1)/\un (L.set (toH n (e_ (e_ rs x).xs (q:Int))).toNat (e_ L x+1))+1=un L:=by
 have h1:=h.put hok hx hi.1 hi.2 hl hn
 refine ⟨h1.1.inc1 λ_=>?_,h1.2⟩
 have hfo:=from_ok hok hi.1
 rw [C8 _ _ _ _ hfo.2.1.1 hfo.2.1.1 (by have:=h.len;omega),if_pos rfl]
 have:=(h.cur hx).2
 omega
theorem LI.over1(h:LI n f (rowsL rs) L todo x q)(hq:(e_ rs x).xs.length<=q):LI n f (rowsL rs) L todo (-1) 0:=h.over (by rw [rowsL_at];exact hq)
end
theorem Layers_ok{κ:Ctx}{I:List Item}{n:Net}{f:List Int}{hs:List Half}{rs:List Row}{b:Nat}{hw ow lw nw:Value}{L nx:List Int}(hok:n.Ok)(hh:HOk n f hs)(hr:ROk n (rowsL rs))(ho:Sl κ I ow rs)(hrow:∀i:Int,0<=i->i<rs.length->Sl κ I (.slice (e_ rs i).a (e_ rs i).xs.length (e_ rs i).c) (e_ rs i).xs)(hL:(L.length:Int)=n.nodes)(hN:(nx.length:Int)=n.nodes):eu prog κ 341 [.pointer (some ⟨b,0,none⟩),e7 (n.source)] (e8 b [hw,ow,lw,nw,e7 (n.sink)] 339::vc 336 hw (hs)::vc 3 lw (L)::vc 3 nw (nx)::I) (λr J=>∃L' nx':List Int,r = .bool (decide (0<=e_ L' n.sink))/\(LvOk n f L'/\(nx'.length:Int)=n.nodes/\∀z:Int,0<=z->z<n.nodes->e_ nx' z=0)/\J=e8 b [hw,ow,lw,nw,e7 (n.sink)] 339::vc 336 hw (hs)::vc 3 lw (L')::vc 3 nw (nx')::I):=by
 have hlim:=hok.lim
 have hsrc:=hok.src
 have hsnk:=hok.snk
 have hhl:=hh.len
 have hrl:=hr.rl
 refine Ce2 Tryz.func341 C C ?_
 refine Ai (Ga C (Af (Ap (Ai (Gm C (Gr (Bm C) (Gf fld339_2 C (Gl ty22 ?_))))))))
 refine Gr (B0 (α:=Int) (xs:=L) Ac C Bk) (Gm C (Af (A0 (B1 (σ:=Nat×(List Int)×(List Int)) (λs=>([(0,.pointer (some ⟨b,0,none⟩)),(1,e7 (n.source)),(14,e7 ((L.length:Nat):Int)),(15,e7 ((s.1:Nat):Int))]:Env)) (λs=>e8 b [hw,ow,lw,nw,e7 (n.sink)] 339::vc 336 hw (hs)::vc 3 lw (s.2.1)::vc 3 nw (s.2.2)::I) (λs=>(s.1<=L.length)/\(s.2.1.length=L.length)/\(s.2.2.length=nx.length)/\(∀j:Nat,j<s.1->e_ s.2.1 j = -1/\e_ s.2.2 j=0)) (λs=>L.length - s.1) (0,L,nx) (show ((0:Nat)<=L.length)/\((L:List Int).length=L.length)/\((nx:List Int).length=nx.length)/\(∀j:Nat,j<(0:Nat)->e_ (L:List Int) j = -1/\e_ (nx:List Int) j=0) from ⟨om,rfl,rfl,all_zero⟩) (Aa C (Aa C (Aa C (Aa Ca Bp)))) (show Fit κ _ (e8 b [hw,ow,lw,nw,e7 (n.sink)] 339::vc 336 hw (hs)::vc 3 lw ((L))::vc 3 nw ((nx))::I) from A1) ?_))))
 rintro ⟨k,L1,nx1⟩ hp
 dsimp only at hp ⊢
 obtain ⟨hk,hl1,hn1,hz⟩:=hp
 refine Ai (Gr (A7 C C) (Af (Ap (A8 C (λc16=>?_) (λc16=>?_)))))
 ·refine Ay (Aj (Ap (A0 (Ai (Gm C (Ga C (Af (Bl mixed (Bt (e8 b [hw,ow,lw,nw,e7 (n.sink)] 339::vc 336 hw (hs)::I) 14 (Dr 0 C (Ad C) (Dr 1 C (Bm C) (Dr 2 C (Ab fld339_2 C) (Dr 3 C (As ty22) ?_)))))))))))))
  refine Dr 4 C (Ad C) (Dr 5 C (Ad C) (Dr 6 C (Bm C) (Dr 7 C (Ab fld339_3 C) (Dr 8 C (As ty22) ?_))))
  refine Dr 9 C (Ad C) (Ds1 10 (Sr C (Az (α:=Int) (xs:=L1) Ac ef C C Bk om om) A1 ?_))
  refine Ds1 11 (Se0 C (Cx (α:=Int) (xs:=L1) (e:=3) (new:= -1) ef C C C om om am) ?_)
  refine Ds1 12 (Sr C (Az (α:=Int) (xs:=nx1) Ac ef C C Bk om om) A1 ?_)
  refine Ds1 13 (Se0 C (Cx (α:=Int) (xs:=nx1) (e:=3) (new:=0) ef C C C om om am) ?_)
  exact Dz (Ak (Aj (Aq (S4 0 1 14 15 C C C C) (Ax (Gr (Rad C C) (Gm C (Bi (B5 ((k+1),(List.set L1 ((k:Int)).toNat (-1)),(List.set nx1 ((k:Int)).toNat (0))) (by dsimp only;exact ⟨om,(by rw [List.length_set];exact hl1),(by rw [List.length_set];exact hn1),(lay_step hz om om)⟩)))))))))
 ·refine Bv (Al (Al (A5 (Aj (Ai (Gm C ?_))))))
  have hkn:k=L.length:=by omega
  subst hkn
  have hst:=LI.start (f:=f) (rs:=rowsL rs) hok (L0:=L1) om (λj hj=>(hz j om).1)
  have hsL:(List.set L1 n.source.toNat 0).length=L1.length:=by rw [List.length_set]
  refine Gr (Bm C) (Gf fld339_2 C (Gl ty22 ?_))
  refine Gm C (Gr (Az (α:=Int) (xs:=L1) Ac ef C C Bk om om) (Ge0 (Cx (α:=Int) (xs:=L1) (e:=3) (new:=0) ef C C C om om am) ?_))
  refine Af (Ap (Ai (Gm C (Ge1 (Cf (α:=Int) (cs:=[_]) (xs:=[n.source]) Ac ef C C dc dc C C C C) λad1=>?_))))
  refine Ga C (Af (Aq (S2 6 0 C C) (A0 (B1 (σ:=(Option Addr)×Nat×(List Int)×(List Int)) (λs=>([(0,.pointer (some ⟨b,0,none⟩)),(6,.slice s.1 s.2.2.1.length s.2.1)]:Env)) (λs=>vc 3 (.slice s.1 s.2.2.1.length s.2.1) (s.2.2.1)::e8 b [hw,ow,lw,nw,e7 (n.sink)] 339::vc 336 hw (hs)::vc 3 lw (s.2.2.2)::vc 3 nw (nx1)::I) (λs=>(LI n f (rowsL rs) s.2.2.2 s.2.2.1 (-1) 0)/\(un s.2.2.2+s.2.2.1.length<=n.nodes.toNat)) (λs=>un s.2.2.2+s.2.2.1.length) (ad1,1,[n.source],List.set L1 (n.source).toNat (0)) (show (LI n f (rowsL rs) (List.set L1 (n.source).toNat (0):List Int) ([n.source]:List Int) (-1) 0)/\(un (List.set L1 (n.source).toNat (0):List Int)+([n.source]:List Int).length<=n.nodes.toNat) from ⟨hst.1,(by have:=hst.2;simp only [List.length_cons,List.length_nil];omega)⟩) (Aa C (Aa (Dl C (by first|rfl|simp)) Bp)) (show Fit κ _ (vc 3 (.slice ad1 ([n.source]).length 1) (([n.source]))::e8 b [hw,ow,lw,nw,e7 (n.sink)] 339::vc 336 hw (hs)::vc 3 lw ((List.set L1 (n.source).toNat (0)))::vc 3 nw (nx1)::I) from A1) ?_))))
  rintro ⟨a,c,todo,L2⟩ hp
  dsimp only at hp ⊢
  obtain ⟨hI,hub⟩:=hp
  have hl2:=hI.len
  refine Ap (Ai (Gm C (Gr (Bs Ac C) (Gr (Bw C C) (Af (A8 C (λc41=>?_) (λc41=>?_)))))))
  ·refine Ay (Aj (Ap (A0 (Ap (Bl mixed (Bt (vc 3 (.slice a todo.length c) (todo)::e8 b [hw,ow,lw,nw,e7 (n.sink)] 339::vc 336 hw (hs)::vc 3 lw (L2)::vc 3 nw (nx1)::I) 11 (Dr 0 C (Ad C) ?_)))))))
   have hx0:=hI.wait _ (Bf (xs:=todo) (i:=0) om om)
   refine Dr 1 C (Bm C) (Dr 2 C (Ab fld339_1 C) (Dr 3 C (As ty79) ?_))
   refine Dr 4 C (Ad C) (Dr 5 C (Az (α:=Int) (xs:=todo) Ac ef C C Bk om om) (Dr 6 C (Bo (xs:=todo) ef C Bk om om) (Dr 7 C (Az (α:=Row) (xs:=rs) Cl ty22 C C (Ba ho) om om) (Dr 8 C (Dj (α:=Row) (xs:=rs) (u:= .slice (e_ rs (e_ todo 0)).a (e_ rs (e_ todo 0)).xs.length (e_ rs (e_ todo 0)).c) ty22 C (Ba ho) om om C) (Dr 9 C (Bs Ac C) (Dr 10 C (Ad C) (Dz (Aj (Aq (S5 54 53 52 0 6 C C C C C) (A0 (B1 (σ:=Nat×(Option Addr)×Nat×(List Int)×(List Int)) (λs=>([(0,.pointer (some ⟨b,0,none⟩)),(6,.slice s.2.1 s.2.2.2.1.length s.2.2.1),(52,.slice (e_ rs (e_ todo 0)).a (e_ rs (e_ todo 0)).xs.length (e_ rs (e_ todo 0)).c),(53,e7 ((((e_ rs (e_ todo 0)).xs.length:Nat):Int))),(54,e7 ((s.1:Nat):Int))]:Env)) (λs=>vc 3 (.slice s.2.1 s.2.2.2.1.length s.2.2.1) (s.2.2.2.1)::e8 b [hw,ow,lw,nw,e7 (n.sink)] 339::vc 336 hw (hs)::vc 3 lw (s.2.2.2.2)::vc 3 nw (nx1)::I) (λs=>(s.1<=(e_ rs (e_ todo 0)).xs.length)/\(0<s.2.2.2.1.length)/\(e_ s.2.2.2.1 0=(e_ todo 0))/\(LI n f (rowsL rs) s.2.2.2.2 (s.2.2.2.1.drop 1) (e_ todo 0) s.1)/\(un s.2.2.2.2+s.2.2.2.1.length=un L2+todo.length)) (λs=>(e_ rs (e_ todo 0)).xs.length - s.1) (0,a,c,todo,L2) (show ((0:Nat)<=(e_ rs (e_ todo 0)).xs.length)/\(0<(todo:List Int).length)/\(e_ (todo:List Int) 0=(e_ todo 0))/\(LI n f (rowsL rs) (L2:List Int) ((todo:List Int).drop 1) (e_ todo 0) (0:Nat))/\(un (L2:List Int)+(todo:List Int).length=un L2+todo.length) from ⟨om,om,rfl,(hI.next om),rfl⟩) (Aa C (Aa (Dl C (by first|rfl|simp)) (Aa C (Aa C (Aa Ca Bp))))) (show Fit κ _ (vc 3 (.slice a (todo).length c) ((todo))::e8 b [hw,ow,lw,nw,e7 (n.sink)] 339::vc 336 hw (hs)::vc 3 lw ((L2))::vc 3 nw (nx1)::I) from A1) ?_)))))))))))
   rintro ⟨q,a1,c1,w,L3⟩ hp
   dsimp only at hp ⊢
   obtain ⟨hq,hwl,hw0,hI1,hmu⟩:=hp
   refine W.pull (λw hs=>(Cv (hrow (e_ todo 0) om om) A3).le w hs) λhrm=>?_
   have hl3:=hI1.len
   have hcur:=hI1.cur hx0.1.1
   have hlw:e_ L3 (e_ w 0)+un L3<n.nodes:=by rw [hw0];exact (hI1.low _ hx0.1.1 hx0.1.2).2
   have hlw0:0<=e_ L3 (e_ w 0):=by rw [hw0];exact hcur.2
   refine Ai (Gr (A7 C C) (Af (Ap (A8 C (λc55=>?_) (λc55=>?_)))))
   ·refine Ay (Aj (Ap (A0 (Ai (Gr (Az (α:=Int) (xs:=(e_ rs (e_ todo 0)).xs) Ac ef C C (Cv (hrow (e_ todo 0) om om) A3) om om) (Gr (Bo (xs:=(e_ rs (e_ todo 0)).xs) ef C (Cv (hrow (e_ todo 0) om om) A3) om om) ?_))))))
    have hm:=hr.row hx0.1.1 hx0.1.2 (j:=(q:Int)) om om
    have hg:=hh.get _ hm.1
    have hfo:=from_ok hok hm.1
    have hi2:0<=(e_ (e_ rs (e_ todo 0)).xs (q:Int))/\(e_ (e_ rs (e_ todo 0)).xs (q:Int))<2*n.arcs.length:=hm.1
    have hd:e_ L3 (e_ hs (e_ (e_ rs (e_ todo 0)).xs (q:Int))).dst=e_ L3 (toH n (e_ (e_ rs (e_ todo 0)).xs (q:Int))):=by rw [hg.2.1]
    refine Ga C (Af (Ai (Gm C (Gr (Bm C) (Gf fld339_0 C (Gl ty337 ?_))))))
    refine Gm C (Gr (Az (α:=Half) (xs:=hs) Ci ty336 C C Bk om om) (Gr (Bz (α:=Half) (xs:=hs) ty336 C Bk om om) (Ge1 (Au ty336 C) λb2=>Ge0 (Es4_4 ty336) ?_)))
    refine Af (Aq (S6 9 0 6 52 53 54 C C C C C C) (Ap (Bl mixed (Bt (e8 b2 [e7 ((e_ hs (e_ ((e_ rs (e_ todo 0)).xs) (q:Int))).frm),e7 ((e_ hs (e_ ((e_ rs (e_ todo 0)).xs) (q:Int))).dst),e7 ((e_ hs (e_ ((e_ rs (e_ todo 0)).xs) (q:Int))).cap),e7 ((e_ hs (e_ ((e_ rs (e_ todo 0)).xs) (q:Int))).left)] 336::vc 3 (.slice a1 w.length c1) (w)::e8 b [hw,ow,lw,nw,e7 (n.sink)] 339::vc 336 hw (hs)::vc 3 lw (L3)::vc 3 nw (nx1)::I) 15 (Dr 0 C (Ab fld336_1 C) (Dr 1 C (As ef) ?_))))))
    refine Dr 2 C (Bw C C) (Dr 3 C (Ad C) (Cs (d:=68) C (λg68=>?_) (λg68=>?_)))
    ·refine Dro 4 C (Ad C) (Dro 5 C (Bm C) (Dro 6 C (Ab fld339_2 C) (Dro 7 C (As ty22) ?_)))
     refine Dro 8 C (Ab fld336_0 C) (Dro 9 C (Ab fld305_1 C) (Dro 10 C (As ef) ?_))
     refine Dro 11 C (Az (α:=Int) (xs:=L3) Ac ef C C Bk om om) (Dro 12 C (Bo (xs:=L3) ef C Bk om om) (Dro 13 C (A7 C C) (Dr 14 C (Ar C C) (Dz (Aj (Aq (S7 79 9 0 6 52 53 54 C C C C C C C) (A8 C (λc79=>?_) (λc79=>?_))))))))
     ·refine Ap (Bl mixed (Bt (e8 b2 [e7 ((e_ hs (e_ ((e_ rs (e_ todo 0)).xs) (q:Int))).frm),e7 ((e_ hs (e_ ((e_ rs (e_ todo 0)).xs) (q:Int))).dst),e7 ((e_ hs (e_ ((e_ rs (e_ todo 0)).xs) (q:Int))).cap),e7 ((e_ hs (e_ ((e_ rs (e_ todo 0)).xs) (q:Int))).left)] 336::vc 3 (.slice a1 w.length c1) (w)::e8 b [hw,ow,lw,nw,e7 (n.sink)] 339::vc 336 hw (hs)::vc 3 lw (L3)::vc 3 nw (nx1)::I) 18 (Dr 0 C (Ad C) (Dr 1 C (Bm C) (Dr 2 C (Ab fld339_2 C) (Dr 3 C (As ty22) ?_))))))
      refine Dr 4 C (Ab fld336_0 C) (Dr 5 C (Ab fld305_1 C) (Dr 6 C (As ef) ?_))
      refine Dr 7 C (Ad C) (Dr 8 C (Bm C) (Dr 9 C (Ab fld339_2 C) (Dr 10 C (As ty22) ?_)))
      refine Dr 11 C (Ad C) (Dr 12 C (Az (α:=Int) (xs:=w) Ac ef C C Bk om om) (Dr 13 C (Bo (xs:=w) ef C Bk om om) (Dr 14 C (Az (α:=Int) (xs:=L3) Ac ef C C Bk om om) (Dr 15 C (Bo (xs:=L3) ef C Bk om om) (Dr 16 C (Rad C C) (Dr 17 C (Az (α:=Int) (xs:=L3) Ac ef C C Bk om om) (C0 kr ?_)))))))
      refine Ae 18 C (Cx (α:=Int) (xs:=L3) (e:=3) (new:=(e_ L3 (e_ w 0))+1) ef C C C om om am) ?_
      rintro _ _ ⟨rfl,rfl⟩
      refine C1 kr ?_
      refine Aj (Aq (S6 9 0 6 52 53 54 C C C C C C) (Ax (Gm C (Gf fld336_0 C (Gf fld305_1 C (Gl ef ?_))))))
      refine Ge1 (Cf (α:=Int) (cs:=[_]) (xs:=[(e_ hs (e_ ((e_ rs (e_ todo 0)).xs) (q:Int))).dst]) Ac ef C C dc dc C C C C) λad3=>?_
      refine Ge2 (Cm (α:=Int) (e:=3) (xs:=w) (ys:=([(e_ hs (e_ ((e_ rs (e_ todo 0)).xs) (q:Int))).dst]:List Int)) Ac ef C C C mm Bk lcn dc C (λ_ _=>am)) λad4 cp5=>?_
      exact Ga C (Bi (Ak (Aj (Ax (Gr (Rad C C) (Gm C (Bi (B5 ((q+1),(ad4),(cp5),(w++([(e_ hs (e_ ((e_ rs (e_ todo 0)).xs) (q:Int))).dst]:List Int)),(List.set L3 ((e_ hs (e_ ((e_ rs (e_ todo 0)).xs) (q:Int))).dst).toNat ((e_ L3 (e_ w 0))+1))) (by dsimp only;exact ⟨om,(by first|exact hwl|(rw [List.length_append];omega)),(by first|exact hw0|(rw [at_zero_append hwl];exact hw0)),(by first|exact hI1.inc1 (λh=>by omega)|(rw [hw0,hg.2.1,drop_one_append hwl];exact (hI1.put1 hok hx0.1.1 hm om om).1)),(by first|exact hmu|(rw [hw0,hg.2.1,List.length_append];have:=(hI1.put1 hok hx0.1.1 hm om om).2;simp only [List.length_cons,List.length_nil];omega))⟩)))))))))
     ·exact Ay (Ak (Aj (Ax (Gr (Rad C C) (Gm C (Bi (B5 ((q+1),(a1),(c1),(w),(L3)) (by dsimp only;exact ⟨om,(by first|exact hwl|(rw [List.length_append];omega)),(by first|exact hw0|(rw [at_zero_append hwl];exact hw0)),(by first|exact hI1.inc1 (λh=>by omega)|(rw [hw0,hg.2.1,drop_one_append hwl];exact (hI1.put1 hok hx0.1.1 hm om om).1)),(by first|exact hmu|(rw [hw0,hg.2.1,List.length_append];have:=(hI1.put1 hok hx0.1.1 hm om om).2;simp only [List.length_cons,List.length_nil];omega))⟩))))))))
    ·exact Dpo 4 C (Dpo 5 C (Dpo 6 C (Dpo 7 C (Dpo 8 C (Dpo 9 C (Dpo 10 C (Dpo 11 C (Dpo 12 C (Dpo 13 C (Dr 14 C (Ao C C) (Dz (Aj (Aq (S7 79 9 0 6 52 53 54 C C C C C C C) (C2 C (Ay (Ak (Aj (Ax (Gr (Rad C C) (Gm C (Bi (B5 ((q+1),(a1),(c1),(w),(L3)) (by dsimp only;exact ⟨om,(by first|exact hwl|(rw [List.length_append];omega)),(by first|exact hw0|(rw [at_zero_append hwl];exact hw0)),(by first|exact hI1.inc1 (λh=>by omega)|(rw [hw0,hg.2.1,drop_one_append hwl];exact (hI1.put1 hok hx0.1.1 hm om om).1)),(by first|exact hmu|(rw [hw0,hg.2.1,List.length_append];have:=(hI1.put1 hok hx0.1.1 hm om om).2;simp only [List.length_cons,List.length_nil];omega))⟩)))))))))))))))))))))))
   ·refine Bv (Al (Al (A5 (Ak (Aj (Ax (Gm C (Gr (E0 (α:=Int) (xs:=w) (l:=1) Ac ef C C om Bk om) (G.fit (J:=vc 3 (.slice (adrop a1 c1 1 (Enc.sz Int)) (List.drop 1 w).length (c1 - 1)) (List.drop 1 w)::e8 b [hw,ow,lw,nw,e7 (n.sink)] 339::vc 336 hw (hs)::vc 3 lw (L3)::vc 3 nw (nx1)::I) (Fit.upd am (reslice (l:=1) om)) ?_)))))))))
    exact Ga C (Bi (B5 (((adrop a1 c1 1 (Enc.sz Int))),((c1 - 1)),(List.drop 1 w),(L3)) (by dsimp only;exact ⟨(hI1.over1 om),(by rw [List.length_drop];omega)⟩) (hlt:=by (try dsimp only);exact (by rw [List.length_drop];omega))))
  ·refine Bv (Al (Al (A5 (Aj (Ap (Bl mixed (Bt (vc 3 (.slice a todo.length c) (todo)::e8 b [hw,ow,lw,nw,e7 (n.sink)] 339::vc 336 hw (hs)::vc 3 lw (L2)::vc 3 nw (nx1)::I) 12 (Dr 0 C (Ad C) (Dr 1 C (Bm C) (Dr 2 C (Ab fld339_2 C) (Dr 3 C (As ty22) ?_)))))))))))
   refine Dr 4 C (Ad C) (Dr 5 C (Bm C) (Dr 6 C (Ab fld339_4 C) (Dr 7 C (As ef) ?_)))
   exact Dr 8 C (Az (α:=Int) (xs:=L2) Ac ef C C Bk om om) (Dr 9 C (Bo (xs:=L2) ef C Bk om om) (Dr 10 C (B9 C C) (Dr 11 C (Bb C) (Dz (Aj (Aq (S1 4 C) (A2 (A6 C C (e8 b [hw,ow,lw,nw,e7 (n.sink)] 339::vc 336 hw (hs)::vc 3 lw (L2)::vc 3 nw (nx1)::I) A1 ⟨L2,nx1,rfl,⟨hI.done hok hr om,by omega,λz h0 h1=>at_all (p:=λz=>e_ nx1 z=0) (λj hj=>(hz j hj).2) h0 om⟩,rfl⟩))))))))
theorem PushR.sink{n:Net}{rs:List (List Int)}{L f nx:List Int}{v:Int}(e:v=n.sink)(hl:f.length=n.arcs.length)(hc:CapF n f)(hd:Dead n rs L f nx)(hx:∀z:Int,0<=z->z<n.nodes->0<=e_ nx z)(d:Int):PushR n rs L v d f nx f nx:=
 ⟨hl,hc,λz=>by rw [e];omega,Less.refl _ _ _,λ_ _ _=>rfl,hd,rfl,hx,λ_ _ _ _ _=>rfl,λ_=>rfl⟩
def PushC(κ:Ctx)(I:List Item)(n:Net)(rs:List Row)(b:Nat)(hw ow lw nw:Value)(L:List Int)(lv:Int):Prop:=
 ∀(v most:Int) (f nx:List Int) (hs:List Half),e_ L v=lv->0<=v->v<n.nodes->0<=e_ L v->1<=most->most<=4611686018427387904->HOk n f hs->Dead n (rowsL rs) L f nx->(∀z:Int,0<=z->z<n.nodes->0<=e_ nx z)->((nx.length:Nat):Int)=n.nodes->eu prog κ 342 [.pointer (some ⟨b,0,none⟩),e7 v,e7 most] (e8 b [hw,ow,lw,nw,e7 (n.sink)] 339::vc 336 hw (hs)::vc 3 lw (L)::vc 3 nw (nx)::I) (λr J=>∃(d:Int) (f':List Int) (hs':List Half) (nx':List Int),r=e7 d/\((0<=d/\d<=most)/\PushR n (rowsL rs) L v d f nx f' nx'/\HOk n f' hs'/\(d<most->¬Adm n f' L v))/\J=e8 b [hw,ow,lw,nw,e7 (n.sink)] 339::vc 336 hw (hs')::vc 3 lw (L)::vc 3 nw (nx')::I)
theorem Push_step{κ:Ctx}{I:List Item}{n:Net}{f:List Int}{hs:List Half}{rs:List Row}{b:Nat}{hw ow lw nw:Value}{L nx:List Int}{v most lv:Int}(hok:n.Ok)(hr:ROk n (rowsL rs))(ho:Sl κ I ow rs)(hrow:∀i:Int,0<=i->i<rs.length->Sl κ I (.slice (e_ rs i).a (e_ rs i).xs.length (e_ rs i).c) (e_ rs i).xs)(hL:(L.length:Int)=n.nodes)(hlow:∀z:Int,0<=z->z<n.nodes-> -1<=e_ L z/\e_ L z<n.nodes)(ih:PushC κ I n rs b hw ow lw nw L (lv+1))(hlv:e_ L v=lv)(hv0:0<=v)(hv1:v<n.nodes)(hLv:0<=e_ L v)(hm0:1<=most)(hm1:most<=4611686018427387904)(hh:HOk n f hs)(hD:Dead n (rowsL rs) L f nx)(hx:∀z:Int,0<=z->z<n.nodes->0<=e_ nx z)(hN:((nx.length:Nat):Int)=n.nodes):eu prog κ 342 [.pointer (some ⟨b,0,none⟩),e7 v,e7 most] (e8 b [hw,ow,lw,nw,e7 (n.sink)] 339::vc 336 hw (hs)::vc 3 lw (L)::vc 3 nw (nx)::I) (λr J=>∃(d:Int) (f':List Int) (hs':List Half) (nx':List Int),r=e7 d/\((0<=d/\d<=most)/\PushR n (rowsL rs) L v d f nx f' nx'/\HOk n f' hs'/\(d<most->¬Adm n f' L v))/\J=e8 b [hw,ow,lw,nw,e7 (n.sink)] 339::vc 336 hw (hs')::vc 3 lw (L)::vc 3 nw (nx')::I):=by
 have hlim:=hok.lim
 have hsrc:=hok.src
 have hsnk:=hok.snk
 have hrl:=hr.rl
 have hLw:=(hlow v hv0 hv1).2
 refine B8 (λw hs=>(Cv (hrow v om om) (by repeat (first|exact Fit.refl _|apply Fit.tail|exact Fit.appR _ _|apply Fit.appL))).le w hs) λhrm=>?_
 refine Ce3 Tryz.func342 C C ?_
 refine Ai (Ga C (Af (Ap (Ai (Gm C (Gm C (Gr (Bm C) (Gf fld339_4 C (Gl ef ?_)))))))))
 refine Gr (Bu C C) (Af (A8 C (λc16=>?_) (λc16=>?_)))
 ·exact Ai (Gm C (Ga C (Af (A2 (Am (A6 C C (e8 b [hw,ow,lw,nw,e7 (n.sink)] 339::vc 336 hw (hs)::vc 3 lw (L)::vc 3 nw (nx)::I) A1 ⟨most,f,hs,nx,rfl,⟨⟨by omega,by omega⟩,PushR.sink c16 hh.flen hh.cap hD hx most,hh,λh=>by omega⟩,rfl⟩))))))
 ·refine Ay (Aj (Ai (Ga C (Af (Ap (A0 (B1 (σ:=Int×(List Int)×(List Half)×(List Int)) (λs=>([(0,.pointer (some ⟨b,0,none⟩)),(1,e7 v),(2,e7 most),(7,e7 (s.1))]:Env)) (λs=>e8 b [hw,ow,lw,nw,e7 (n.sink)] 339::vc 336 hw (s.2.2.1)::vc 3 lw (L)::vc 3 nw (s.2.2.2)::I) (λs=>(0<=s.1)/\(s.1<=most)/\(PushR n (rowsL rs) L v s.1 f nx s.2.1 s.2.2.2)/\(HOk n s.2.1 s.2.2.1)) (λs=>((e_ rs v).xs.length - e_ s.2.2.2 v).toNat) (0,f,hs,nx) (show (0<=(0:Int))/\((0:Int)<=most)/\(PushR n (rowsL rs) L v (0:Int) f nx (f:List Int) (nx:List Int))/\(HOk n (f:List Int) (hs:List Half)) from ⟨om,om,(PushR.start hh.flen hh.cap hD hx v),hh⟩) (Aa C (Aa C (Aa C (Aa Ca Bp)))) (show Fit κ _ (e8 b [hw,ow,lw,nw,e7 (n.sink)] 339::vc 336 hw ((hs))::vc 3 lw (L)::vc 3 nw ((nx))::I) from A1) ?_)))))))
  rintro ⟨sent,f1,hs1,nx1⟩ hp
  dsimp only at hp ⊢
  obtain ⟨hs0,hs9,hP,hH1⟩:=hp
  have hnl:=hP.nlen
  have hnx0:=hP.nge v hv0 hv1
  have hhl:=hH1.len
  refine Ap (Ap (Bl mixed (Bt (e8 b [hw,ow,lw,nw,e7 (n.sink)] 339::vc 336 hw (hs1)::vc 3 lw (L)::vc 3 nw (nx1)::I) 21 (Dr 0 C (Ad C) (Dr 1 C (Bm C) (Dr 2 C (Ab fld339_3 C) (Dr 3 C (As ty22) ?_)))))))
  refine Dr 4 C (Ad C) (Dr 5 C (Az (α:=Int) (xs:=nx1) Ac ef C C Bk om om) (Dr 6 C (Bo (xs:=nx1) ef C Bk om om) (Dr 7 C (Ad C) (Dr 8 C (Bm C) (Dr 9 C (Ab fld339_1 C) (Dr 10 C (As ty79) ?_))))))
  refine Dr 11 C (Ad C) (Dr 12 C (Az (α:=Row) (xs:=rs) Cl ty22 C C (Ba ho) om om) (Dr 13 C (Dj (α:=Row) (xs:=rs) (u:= .slice (e_ rs v).a (e_ rs v).xs.length (e_ rs v).c) ty22 C (Ba ho) om om C) (Dr 14 C (Bs Ac C) (Dr 15 C (A7 C C) (Dr 16 C (Ad C) (Cs (d:=34) C (λg34=>?_) (λg34=>?_)))))))
  ·refine Dro 17 C (Ad C) (Dro 18 C (Ad C) (Dro 19 C (A7 C C) (Dr 20 C (Ar C C) (Dz (Aj (Aq (S5 38 0 1 2 7 C C C C C) (A8 C (λc38=>?_) (λc38=>?_))))))))
   ·refine Ay (Aj (W.cut (σ:=Int×(List Int)×(List Half)×(List Int)) (λs=>([(0,.pointer (some ⟨b,0,none⟩)),(1,e7 v),(2,e7 most),(7,e7 (s.1))]:Env)) (λs=>e8 b [hw,ow,lw,nw,e7 (n.sink)] 339::vc 336 hw (s.2.2.1)::vc 3 lw (L)::vc 3 nw (s.2.2.2)::I) (λs=>(0<=s.1/\s.1<=most)/\(PushR n (rowsL rs) L v s.1 f nx s.2.1 s.2.2.2)/\(HOk n s.2.1 s.2.2.1)/\(e_ s.2.2.2 v=e_ nx1 v)/\(¬(0<leftH n s.2.1 (e_ (e_ rs v).xs (e_ s.2.2.2 v))/\e_ L (toH n (e_ (e_ rs v).xs (e_ s.2.2.2 v)))=e_ L v+1/\Adm n s.2.1 L (toH n (e_ (e_ rs v).xs (e_ s.2.2.2 v)))))) ?_ ?_))
    ·refine A0 (Ap (Bl mixed (Bt (e8 b [hw,ow,lw,nw,e7 (n.sink)] 339::vc 336 hw (hs1)::vc 3 lw (L)::vc 3 nw (nx1)::I) 17 (Dr 0 C (Ad C) (Dr 1 C (Bm C) (Dr 2 C (Ab fld339_1 C) (Dr 3 C (As ty79) ?_)))))))
     refine Dr 4 C (Ad C) (Dr 5 C (Az (α:=Row) (xs:=rs) Cl ty22 C C (Ba ho) om om) (Dr 6 C (Dj (α:=Row) (xs:=rs) (u:= .slice (e_ rs v).a (e_ rs v).xs.length (e_ rs v).c) ty22 C (Ba ho) om om C) (Dr 7 C (Ad C) (Dr 8 C (Bm C) (Dr 9 C (Ab fld339_3 C) (Dr 10 C (As ty22) ?_))))))
     refine Dr 11 C (Ad C) (Dr 12 C (Az (α:=Int) (xs:=nx1) Ac ef C C Bk om om) ?_)
     have hm:=hr.row hv0 hv1 (j:=e_ nx1 v) om om
     have hg:=hH1.get _ hm.1
     have hfo:=from_ok hok hm.1
     have hi2:0<=(e_ (e_ rs v).xs (e_ nx1 v))/\(e_ (e_ rs v).xs (e_ nx1 v))<2*n.arcs.length:=hm.1
     have hlk:=left_ok hH1.cap hm.1
     have hak:=(arc_ok hok hm.1.half.1 hm.1.half.2).2.2.2
     have hd:e_ L (e_ hs1 (e_ (e_ rs v).xs (e_ nx1 v))).dst=e_ L (toH n (e_ (e_ rs v).xs (e_ nx1 v))):=by rw [hg.2.1]
     refine Dr 13 C (Bo (xs:=nx1) ef C Bk om om) (Dr 14 C (Az (α:=Int) (xs:=(e_ rs v).xs) Ac ef C C (Cv (hrow v om om) A3) om om) (Dr 15 C (Bo (xs:=(e_ rs v).xs) ef C (Cv (hrow v om om) A3) om om) (Dr 16 C (Bb C) (Dz (Aj (Aq (S5 8 0 1 2 7 C C C C C) (Ai (Gm C (Gr (Bm C) (Gf fld339_0 C (Gl ty337 ?_)))))))))))
     refine Gm C (Gr (Az (α:=Half) (xs:=hs1) Ci ty336 C C Bk om om) (Gr (Bz (α:=Half) (xs:=hs1) ty336 C Bk om om) (Ge1 (Au ty336 C) λb1=>Ge0 (Es4_4 ty336) ?_)))
     refine Af (Ap (Ap (Bl mixed (Bt (e8 b1 [e7 ((e_ hs1 (e_ ((e_ rs v).xs) (e_ nx1 v))).frm),e7 ((e_ hs1 (e_ ((e_ rs v).xs) (e_ nx1 v))).dst),e7 ((e_ hs1 (e_ ((e_ rs v).xs) (e_ nx1 v))).cap),e7 ((e_ hs1 (e_ ((e_ rs v).xs) (e_ nx1 v))).left)] 336::e8 b [hw,ow,lw,nw,e7 (n.sink)] 339::vc 336 hw (hs1)::vc 3 lw (L)::vc 3 nw (nx1)::I) 23 (Dr 0 C (Ab fld336_1 C) (Dr 1 C (As ef) ?_))))))
     refine Dr 2 C (Bu C C) (Dr 3 C (Ad C) (Cs (d:=74) C (λg74=>?_) (λg74=>?_)))
     ·exact Dpo 4 C (Dpo 5 C (Dpo 6 C (Dpo 7 C (Dpo 8 C (Dpo 9 C (Dpo 10 C (Dpo 11 C (Dpo 12 C (Dpo 13 C (Dpo 14 C (Dpo 15 C (Dpo 16 C (Dpo 17 C (Dpo 18 C (Dpo 19 C (Dpo 20 C (Dpo 21 C (Dr 22 C (Ar C C) (Dz (Aj (Aq (S7 93 9 8 0 1 2 7 C C C C C C C) (Cq C (Bv (Al (A5 (C9 ((sent),(f1),(hs1),(nx1)) (by dsimp only;exact ⟨om,(by first|exact hP|exact hput.1),(by first|exact hH1|exact hHp),(by first|rfl|exact hput.2.1),(by first|(rintro ⟨a,b,c⟩;omega)|(rw [hput.2.1];have hused2:=hused c135;rw [hm.2] at hused2;exact hused2))⟩)))))))))))))))))))))))))))
     ·refine Dro 4 C (Ad C) (Dro 5 C (Bm C) (Dro 6 C (Ab fld339_2 C) (Dro 7 C (As ty22) ?_)))
      refine Dro 8 C (Ab fld336_0 C) (Dro 9 C (Ab fld305_1 C) (Dro 10 C (As ef) ?_))
      refine Dro 11 C (Az (α:=Int) (xs:=L) Ac ef C C Bk om om) (Dro 12 C (Bo (xs:=L) ef C Bk om om) (Dro 13 C (Ad C) (Dro 14 C (Bm C) (Dro 15 C (Ab fld339_2 C) (Dro 16 C (As ty22) ?_)))))
      refine Dro 17 C (Ad C) (Dro 18 C (Az (α:=Int) (xs:=L) Ac ef C C Bk om om) (Dro 19 C (Bo (xs:=L) ef C Bk om om) (Dro 20 C (Rad C C) (Dro 21 C (Br C C) (Dr 22 C (Ao C C) (Dz (Aj (Aq (S7 93 9 8 0 1 2 7 C C C C C C C) (A8 C (λc93=>?_) (λc93=>?_))))))))))
      ·exact Bv (Al (A5 (C9 ((sent),(f1),(hs1),(nx1)) (by dsimp only;exact ⟨om,(by first|exact hP|exact hput.1),(by first|exact hH1|exact hHp),(by first|rfl|exact hput.2.1),(by first|(rintro ⟨a,b,c⟩;omega)|(rw [hput.2.1];have hused2:=hused c135;rw [hm.2] at hused2;exact hused2))⟩))))
      ·refine Ay (Aj (Ai (Gm C (Gf fld336_0 C (Gf fld305_1 C (Gl ef ?_))))))
       refine Gm C (Gm C (Gr (Rsu C C) (Gf fld336_1 C (Gl ef ?_))))
       refine Gr (Ex C C) (G.e (Ah call342 C C (Db (J:=e8 b [hw,ow,lw,nw,e7 (n.sink)] 339::vc 336 hw (hs1)::vc 3 lw (L)::vc 3 nw (nx1)::I) A1 (ih (e_ hs1 (e_ (e_ rs v).xs (e_ nx1 v))).dst (if ((e_ hs1 (e_ ((e_ rs v).xs) (e_ nx1 v))).left)<(most - sent) then ((e_ hs1 (e_ ((e_ rs v).xs) (e_ nx1 v))).left) else (most - sent)) f1 nx1 hs1 om om om om (by split<;>omega) (by split<;>omega) hH1 hP.dead hP.nge om))) ?_)
       rintro _ _ ⟨_,_,⟨d2,f3,hs4,nx5,rfl,⟨hbd2,hPd2,hHd2,hAd2⟩,rfl⟩,rfl,rfl⟩
       show G prog κ _ _ _ _ ([(104,e7 d2),(103,e7 (if ((e_ hs1 (e_ ((e_ rs v).xs) (e_ nx1 v))).left)<(most - sent) then ((e_ hs1 (e_ ((e_ rs v).xs) (e_ nx1 v))).left) else (most - sent))),(102,e7 ((e_ hs1 (e_ ((e_ rs v).xs) (e_ nx1 v))).left)),(101,.pointer (some ⟨b1,3,none⟩)),(100,e7 (most - sent)),(99,e7 sent),(98,e7 most),(97,e7 ((e_ hs1 (e_ ((e_ rs v).xs) (e_ nx1 v))).dst)),(96,.pointer (some ⟨b1,1,none⟩)),(95,.pointer (some ⟨b1,0,none⟩)),(94,.pointer (some ⟨b,0,none⟩)),(93,.bool (decide ((e_ L ((e_ hs1 (e_ ((e_ rs v).xs) (e_ nx1 v))).dst))≠((e_ L v)+1)))),(9,.pointer (some ⟨b1,0,none⟩)),(8,e7 (e_ ((e_ rs v).xs) (e_ nx1 v))),(0,.pointer (some ⟨b,0,none⟩)),(1,e7 v),(2,e7 most),(7,e7 sent)]:Env) (e8 b [hw,ow,lw,nw,e7 (n.sink)] 339::vc 336 hw (hs4)::vc 3 lw (L)::vc 3 nw (nx5)::I)
       rw [hg.2.1] at hPd2 hAd2
       have hL1:e_ L (toH n (e_ (e_ rs v).xs (e_ nx1 v)))=e_ L v+1:=by omega
       have hle:d2<=(if (e_ hs1 (e_ (e_ rs v).xs (e_ nx1 v))).left<most - sent then (e_ hs1 (e_ (e_ rs v).xs (e_ nx1 v))).left else most - sent):=hbd2.2
       have hle2:d2<=(e_ hs1 (e_ (e_ rs v).xs (e_ nx1 v))).left/\d2<=most - sent:=by revert hle;split<;>omega
       have hput:=hP.put hok hr hm.1 hm.2 hL1 hs0 hbd2.1 om hPd2
       have hg2:=hHd2.get _ hm.1
       have hg3:=hHd2.get _ hm.1.mate
       have hls:=left_sum n f3 (e_ (e_ rs v).xs (e_ nx1 v))
       have hhl2:=hHd2.len
       have hlk2:=left_ok hHd2.cap hm.1
       have hlk3:=left_ok hHd2.cap hm.1.mate
       have hmi:0<=mateH (e_ (e_ rs v).xs (e_ nx1 v))/\mateH (e_ (e_ rs v).xs (e_ nx1 v))<2*n.arcs.length:=hm.1.mate
       have hmh:=mate_half (e_ (e_ rs v).xs (e_ nx1 v))
       rw [hmh] at hlk3
       have hused:=fun (hne:¬sent+d2=most)=>PushR.used (e:=d2) (m:=(if (e_ hs1 (e_ (e_ rs v).xs (e_ nx1 v))).left<most - sent then (e_ hs1 (e_ (e_ rs v).xs (e_ nx1 v))).left else most - sent)) hm.1 (Decidable.byCases (λh:d2<(if (e_ hs1 (e_ (e_ rs v).xs (e_ nx1 v))).left<most - sent then (e_ hs1 (e_ (e_ rs v).xs (e_ nx1 v))).left else most - sent)=> .inl h) (λh=> .inr (by have hls2:=hput.2.2;revert h;split<;>omega))) (λh=>hAd2 h) hPd2.len hbd2.1 (by rw [hm.2];exact hL1)
       refine Ga C (Af (Aq (S6 10 8 0 1 2 7 C C C C C C) (Ai (Gm C (Gr (Bm C) (Gf fld339_0 C (Gl ty337 ?_)))))))
       refine Gm C (Gr (Az (α:=Half) (xs:=hs4) Ci ty336 C C Bk om om) (Gr (Ef (α:=Half) (xs:=hs4) fld336_1 C Bk om) (Gr (Et (α:=Half) (xs:=hs4) (u:=e7 ((e_ hs4 (e_ ((e_ rs v).xs) (e_ nx1 v))).left)) ef C Bk om om C) (Gm C (Gr (Rsu C C) (Gr (Az (α:=Half) (xs:=hs4) Ci ty336 C C Bk om om) (Gr (Ef (α:=Half) (xs:=hs4) fld336_1 C Bk om) (Ge0 (Eff.setf (α:=Half) (xs:=hs4) (e:=336) (new:={e_ hs4 (e_ ((e_ rs v).xs) (e_ nx1 v)) with left:=((e_ hs4 (e_ ((e_ rs v).xs) (e_ nx1 v))).left) - d2}) (j:=3) ef C C C C dc C om om am) ?_))))))))
       have hmt:e_ (List.set hs4 (e_ ((e_ rs v).xs) (e_ nx1 v)).toNat ({e_ hs4 (e_ ((e_ rs v).xs) (e_ nx1 v)) with left:=((e_ hs4 (e_ ((e_ rs v).xs) (e_ nx1 v))).left) - d2})) (mateH (e_ (e_ rs v).xs (e_ nx1 v)))=e_ hs4 (mateH (e_ (e_ rs v).xs (e_ nx1 v))):=by rw [C8 hs4 _ _ _ om om om,if_neg (λe=>mate_ne _ e.symm)]
       have hmt1:(e_ (List.set hs4 (e_ ((e_ rs v).xs) (e_ nx1 v)).toNat ({e_ hs4 (e_ ((e_ rs v).xs) (e_ nx1 v)) with left:=((e_ hs4 (e_ ((e_ rs v).xs) (e_ nx1 v))).left) - d2})) (mateH (e_ (e_ rs v).xs (e_ nx1 v)))).left=leftH n f3 (mateH (e_ (e_ rs v).xs (e_ nx1 v))):=by rw [hmt];exact hg3.2.2
       have hsl:(List.set hs4 (e_ ((e_ rs v).xs) (e_ nx1 v)).toNat ({e_ hs4 (e_ ((e_ rs v).xs) (e_ nx1 v)) with left:=((e_ hs4 (e_ ((e_ rs v).xs) (e_ nx1 v))).left) - d2})).length=hs4.length:=List.length_set
       refine Af (Aq (S6 10 8 0 1 2 7 C C C C C C) (Ai (Gm C (Gr (Bm C) (Gf fld339_0 C (Gl ty337 ?_))))))
       refine Gm C (Gr ((xor_mate (i:=e_ ((e_ rs v).xs) (e_ nx1 v)) om om)▸Runs.xorw C C) (Gr (Az (α:=Half) (xs:=List.set hs4 (e_ ((e_ rs v).xs) (e_ nx1 v)).toNat ({e_ hs4 (e_ ((e_ rs v).xs) (e_ nx1 v)) with left:=((e_ hs4 (e_ ((e_ rs v).xs) (e_ nx1 v))).left) - d2})) Ci ty336 C C Bk om om) (Gr (Ef (α:=Half) (xs:=List.set hs4 (e_ ((e_ rs v).xs) (e_ nx1 v)).toNat ({e_ hs4 (e_ ((e_ rs v).xs) (e_ nx1 v)) with left:=((e_ hs4 (e_ ((e_ rs v).xs) (e_ nx1 v))).left) - d2})) fld336_1 C Bk om) (Gr (Et (α:=Half) (xs:=List.set hs4 (e_ ((e_ rs v).xs) (e_ nx1 v)).toNat ({e_ hs4 (e_ ((e_ rs v).xs) (e_ nx1 v)) with left:=((e_ hs4 (e_ ((e_ rs v).xs) (e_ nx1 v))).left) - d2})) (u:=e7 ((e_ (List.set hs4 (e_ ((e_ rs v).xs) (e_ nx1 v)).toNat ({e_ hs4 (e_ ((e_ rs v).xs) (e_ nx1 v)) with left:=((e_ hs4 (e_ ((e_ rs v).xs) (e_ nx1 v))).left) - d2})) (mateH (e_ ((e_ rs v).xs) (e_ nx1 v)))).left)) ef C Bk om om C) (Gm C (Gr (Rad C C) (Gr (Az (α:=Half) (xs:=List.set hs4 (e_ ((e_ rs v).xs) (e_ nx1 v)).toNat ({e_ hs4 (e_ ((e_ rs v).xs) (e_ nx1 v)) with left:=((e_ hs4 (e_ ((e_ rs v).xs) (e_ nx1 v))).left) - d2})) Ci ty336 C C Bk om om) (Gr (Ef (α:=Half) (xs:=List.set hs4 (e_ ((e_ rs v).xs) (e_ nx1 v)).toNat ({e_ hs4 (e_ ((e_ rs v).xs) (e_ nx1 v)) with left:=((e_ hs4 (e_ ((e_ rs v).xs) (e_ nx1 v))).left) - d2})) fld336_1 C Bk om) (Ge0 (Eff.setf (α:=Half) (xs:=List.set hs4 (e_ ((e_ rs v).xs) (e_ nx1 v)).toNat ({e_ hs4 (e_ ((e_ rs v).xs) (e_ nx1 v)) with left:=((e_ hs4 (e_ ((e_ rs v).xs) (e_ nx1 v))).left) - d2})) (e:=336) (new:={e_ (List.set hs4 (e_ ((e_ rs v).xs) (e_ nx1 v)).toNat ({e_ hs4 (e_ ((e_ rs v).xs) (e_ nx1 v)) with left:=((e_ hs4 (e_ ((e_ rs v).xs) (e_ nx1 v))).left) - d2})) (mateH (e_ ((e_ rs v).xs) (e_ nx1 v))) with left:=((e_ (List.set hs4 (e_ ((e_ rs v).xs) (e_ nx1 v)).toNat ({e_ hs4 (e_ ((e_ rs v).xs) (e_ nx1 v)) with left:=((e_ hs4 (e_ ((e_ rs v).xs) (e_ nx1 v))).left) - d2})) (mateH (e_ ((e_ rs v).xs) (e_ nx1 v)))).left)+d2}) (j:=3) ef C C C C dc C om om am) ?_)))))))))
       have hHp:HOk n (pushF f3 (e_ (e_ rs v).xs (e_ nx1 v)) d2) (List.set (List.set hs4 (e_ ((e_ rs v).xs) (e_ nx1 v)).toNat ({e_ hs4 (e_ ((e_ rs v).xs) (e_ nx1 v)) with left:=((e_ hs4 (e_ ((e_ rs v).xs) (e_ nx1 v))).left) - d2})) (mateH (e_ ((e_ rs v).xs) (e_ nx1 v))).toNat ({e_ (List.set hs4 (e_ ((e_ rs v).xs) (e_ nx1 v)).toNat ({e_ hs4 (e_ ((e_ rs v).xs) (e_ nx1 v)) with left:=((e_ hs4 (e_ ((e_ rs v).xs) (e_ nx1 v))).left) - d2})) (mateH (e_ ((e_ rs v).xs) (e_ nx1 v))) with left:=((e_ (List.set hs4 (e_ ((e_ rs v).xs) (e_ nx1 v)).toNat ({e_ hs4 (e_ ((e_ rs v).xs) (e_ nx1 v)) with left:=((e_ hs4 (e_ ((e_ rs v).xs) (e_ nx1 v))).left) - d2})) (mateH (e_ ((e_ rs v).xs) (e_ nx1 v)))).left)+d2})):=hHd2.push hm.1 hbd2.1 om
       refine Af (Aq (S5 10 0 1 2 7 C C C C C) (Ai (Gm C (Gm C (Gr (Rad C C) (Ga C (Af (Ai (Gm C (Gm C (Gr (Bu C C) (Af (A8 C (λc135=>?_) (λc135=>?_))))))))))))))
       ·exact Ai (Gm C (Ga C (Af (Aq (S1 6 C) (A2 (Av (Am (Am (Av (Am (A6 C C (e8 b [hw,ow,lw,nw,e7 (n.sink)] 339::vc 336 hw (List.set (List.set hs4 (e_ ((e_ rs v).xs) (e_ nx1 v)).toNat ({e_ hs4 (e_ ((e_ rs v).xs) (e_ nx1 v)) with left:=((e_ hs4 (e_ ((e_ rs v).xs) (e_ nx1 v))).left) - d2})) (mateH (e_ ((e_ rs v).xs) (e_ nx1 v))).toNat ({e_ (List.set hs4 (e_ ((e_ rs v).xs) (e_ nx1 v)).toNat ({e_ hs4 (e_ ((e_ rs v).xs) (e_ nx1 v)) with left:=((e_ hs4 (e_ ((e_ rs v).xs) (e_ nx1 v))).left) - d2})) (mateH (e_ ((e_ rs v).xs) (e_ nx1 v))) with left:=((e_ (List.set hs4 (e_ ((e_ rs v).xs) (e_ nx1 v)).toNat ({e_ hs4 (e_ ((e_ rs v).xs) (e_ nx1 v)) with left:=((e_ hs4 (e_ ((e_ rs v).xs) (e_ nx1 v))).left) - d2})) (mateH (e_ ((e_ rs v).xs) (e_ nx1 v)))).left)+d2}))::vc 3 lw (L)::vc 3 nw (nx5)::I) A1 ⟨_,_,_,_,rfl,⟨⟨by omega,by omega⟩,hput.1,hHp,λh=>by omega⟩,rfl⟩)))))))))))
       ·exact Ay (Ak (C9 ((sent+d2),(pushF f3 (e_ (e_ rs v).xs (e_ nx1 v)) d2),(List.set (List.set hs4 (e_ ((e_ rs v).xs) (e_ nx1 v)).toNat ({e_ hs4 (e_ ((e_ rs v).xs) (e_ nx1 v)) with left:=((e_ hs4 (e_ ((e_ rs v).xs) (e_ nx1 v))).left) - d2})) (mateH (e_ ((e_ rs v).xs) (e_ nx1 v))).toNat ({e_ (List.set hs4 (e_ ((e_ rs v).xs) (e_ nx1 v)).toNat ({e_ hs4 (e_ ((e_ rs v).xs) (e_ nx1 v)) with left:=((e_ hs4 (e_ ((e_ rs v).xs) (e_ nx1 v))).left) - d2})) (mateH (e_ ((e_ rs v).xs) (e_ nx1 v))) with left:=((e_ (List.set hs4 (e_ ((e_ rs v).xs) (e_ nx1 v)).toNat ({e_ hs4 (e_ ((e_ rs v).xs) (e_ nx1 v)) with left:=((e_ hs4 (e_ ((e_ rs v).xs) (e_ nx1 v))).left) - d2})) (mateH (e_ ((e_ rs v).xs) (e_ nx1 v)))).left)+d2})),(nx5)) (by dsimp only;exact ⟨om,(by first|exact hP|exact hput.1),(by first|exact hH1|exact hHp),(by first|rfl|exact hput.2.1),(by first|(rintro ⟨a,b,c⟩;omega)|(rw [hput.2.1];have hused2:=hused c135;rw [hm.2] at hused2;exact hused2))⟩)))
    ·rintro ⟨sent2,f2,hs2,nx2⟩ hp
     obtain ⟨hs20,hP2,hH2,hnx2,hD2⟩:(0<=sent2/\sent2<=most)/\(PushR n (rowsL rs) L v sent2 f nx f2 nx2)/\(HOk n f2 hs2)/\(e_ nx2 v=e_ nx1 v)/\(¬(0<leftH n f2 (e_ (e_ rs v).xs (e_ nx2 v))/\e_ L (toH n (e_ (e_ rs v).xs (e_ nx2 v)))=e_ L v+1/\Adm n f2 L (toH n (e_ (e_ rs v).xs (e_ nx2 v))))):=hp
     show W prog κ 138 _ _ ([(0,.pointer (some ⟨b,0,none⟩)),(1,e7 v),(2,e7 most),(7,e7 sent2)]:Env) (e8 b [hw,ow,lw,nw,e7 (n.sink)] 339::vc 336 hw (hs2)::vc 3 lw (L)::vc 3 nw (nx2)::I)
     refine Ax (Gm C ?_)
     have hnl2:=hP2.nlen
     have hnx20:=hP2.nge v hv0 hv1
     refine Gr (Bm C) (Gf fld339_3 C (Gl ty22 ?_))
     refine Gm C (Gr (Az (α:=Int) (xs:=nx2) Ac ef C C Bk om om) (Gr (Bo (xs:=nx2) ef C Bk om om) (Gr (Rad C C) (Gr (Az (α:=Int) (xs:=nx2) Ac ef C C Bk om om) (Ge0 (Cx (α:=Int) (xs:=nx2) (e:=3) (new:=(e_ nx2 v)+1) ef C C C om om am) ?_)))))
     exact Bi (B5 ((sent2),(f2),(hs2),(List.set nx2 (v).toNat ((e_ nx2 v)+1))) (by dsimp only;exact ⟨om,om,(hP2.adv om (by rw [rowsL_at];exact hD2) hv1),hH2⟩) (hlt:=by (try dsimp only);exact (by rw [C8 nx2 v v _ hv0 hv0 om,if_pos rfl];omega)))
   ·exact Bv (Al (Al (A5 (Aj (Ai (Gm C (Ga C (Af (A2 (A6 C C (e8 b [hw,ow,lw,nw,e7 (n.sink)] 339::vc 336 hw (hs1)::vc 3 lw (L)::vc 3 nw (nx1)::I) A1 ⟨_,_,_,_,rfl,⟨⟨hs0,hs9⟩,hP,hH1,λh=>by first|omega|exact Dead.not hr hP.dead ⟨hv0,hv1⟩ c16 (by rw [rowsL_at];omega)⟩,rfl⟩))))))))))
  ·exact Dpo 17 C (Dpo 18 C (Dpo 19 C (Dr 20 C (Ao C C) (Dz (Aj (Aq (S5 38 0 1 2 7 C C C C C) (C2 C (Bv (Al (Al (A5 (Aj (Ai (Gm C (Ga C (Af (A2 (A6 C C (e8 b [hw,ow,lw,nw,e7 (n.sink)] 339::vc 336 hw (hs1)::vc 3 lw (L)::vc 3 nw (nx1)::I) A1 ⟨_,_,_,_,rfl,⟨⟨hs0,hs9⟩,hP,hH1,λh=>by first|omega|exact Dead.not hr hP.dead ⟨hv0,hv1⟩ c16 (by rw [rowsL_at];omega)⟩,rfl⟩))))))))))))))))))
variable {κ:Ctx}{I:List Item}
theorem Push_ok{n:Net}{rs:List Row}{b:Nat}{hw ow lw nw:Value}{L:List Int}(hok:n.Ok)(hr:ROk n (rowsL rs))(ho:Sl κ I ow rs)(hrow:∀i:Int,0<=i->i<rs.length->Sl κ I (.slice (e_ rs i).a (e_ rs i).xs.length (e_ rs i).c) (e_ rs i).xs)(hL:(L.length:Int)=n.nodes)(hlow:∀z:Int,0<=z->z<n.nodes-> -1<=e_ L z/\e_ L z<n.nodes):∀(d:Nat) (lv:Int),n.nodes - lv<=d->PushC κ I n rs b hw ow lw nw L lv:=by
 intro d
 induction d with
 |zero=>
  intro lv hd v most f nx hs hlv h0 h1
  have:=(hlow v h0 h1).2
  omega
 |succ d ih=>
  intro lv hd v most f nx hs hlv h0 h1 h2 h3 h4 h5 h6 h7 h8
  exact Push_step hok hr ho hrow hL hlow (ih (lv+1) om) hlv h0 h1 h2 h3 h4 h5 h6 h7 h8
theorem Greatest_ok{n:Net}{f:List Int}{hs:List Half}{rs:List Row}{b:Nat}{hw ow lw nw:Value}{L nx:List Int}(hok:n.Ok)(hh:HOk n f hs)(hr:ROk n (rowsL rs))(ho:Sl κ I ow rs)(hrow:∀i:Int,0<=i->i<rs.length->Sl κ I (.slice (e_ rs i).a (e_ rs i).xs.length (e_ rs i).c) (e_ rs i).xs)(hL:(L.length:Int)=n.nodes)(hN:(nx.length:Int)=n.nodes)(hf:IsFlow n f)(hv0:netF n f n.source=0):eu prog κ 336 [.pointer (some ⟨b,0,none⟩),e7 (n.source)] (e8 b [hw,ow,lw,nw,e7 (n.sink)] 339::vc 336 hw (hs)::vc 3 lw (L)::vc 3 nw (nx)::I) (λr J=>∃(val:Int) (f':List Int) (hs':List Half) (L' nx':List Int),r=e7 val/\(Full n f' val/\HOk n f' hs')/\J=e8 b [hw,ow,lw,nw,e7 (n.sink)] 339::vc 336 hw (hs')::vc 3 lw (L')::vc 3 nw (nx')::I):=by
 have hlim:=hok.lim
 have hsrc:=hok.src
 have hsnk:=hok.snk
 refine Ce2 Tryz.func336 C C ?_
 refine Ai (Ga C (Af (Ai (Ga C (Af (Ap (A0 (B1 (σ:=Int×(List Int)×(List Half)×(List Int)×(List Int)) (λs=>([(0,.pointer (some ⟨b,0,none⟩)),(1,e7 (n.source)),(5,e7 (s.1))]:Env)) (λs=>e8 b [hw,ow,lw,nw,e7 (n.sink)] 339::vc 336 hw (s.2.2.1)::vc 3 lw (s.2.2.2.1)::vc 3 nw (s.2.2.2.2)::I) (λs=>(IsFlow n s.2.1)/\(s.1=netF n s.2.1 n.source)/\(0<=s.1)/\(HOk n s.2.1 s.2.2.1)/\((s.2.2.2.1.length:Int)=n.nodes)/\((s.2.2.2.2.length:Int)=n.nodes)) (λs=>(18014398509481984 - s.1).toNat) (0,f,hs,L,nx) (show (IsFlow n (f:List Int))/\((0:Int)=netF n (f:List Int) n.source)/\(0<=(0:Int))/\(HOk n (f:List Int) (hs:List Half))/\(((L:List Int).length:Int)=n.nodes)/\(((nx:List Int).length:Int)=n.nodes) from ⟨hf,hv0.symm,om,hh,hL,hN⟩) (Aa C (Aa C (Aa Ca Bp))) (show Fit κ _ (e8 b [hw,ow,lw,nw,e7 (n.sink)] 339::vc 336 hw ((hs))::vc 3 lw ((L))::vc 3 nw ((nx))::I) from A1) ?_))))))))
 rintro ⟨val,f,hs,L,nx⟩ hp
 dsimp only at hp ⊢
 obtain ⟨hf,hval,hv0,hh,hL,hN⟩:=hp
 refine Ap (Ai (Gm C (Gm C (G.e (Ah call341 C C (Layers_ok (n:=n) (f:=f) hok hh hr ho hrow om om)) ?_))))
 rintro _ _ ⟨_,_,⟨L1,nx2,rfl,⟨hVL1,hnL1,hzL1⟩,rfl⟩,rfl,rfl⟩
 show G prog κ _ _ _ _ ([(8,.bool (decide (0<=e_ L1 n.sink))),(7,e7 (n.source)),(6,.pointer (some ⟨b,0,none⟩)),(0,.pointer (some ⟨b,0,none⟩)),(1,e7 (n.source)),(5,e7 val)]:Env) (e8 b [hw,ow,lw,nw,e7 (n.sink)] 339::vc 336 hw (hs)::vc 3 lw (L1)::vc 3 nw (nx2)::I)
 have hlL1:=hVL1.len
 refine Af (A8 C (λc8=>?_) (λc8=>?_))
 ·refine Ay (Aj (A0 (Ax (Gm C (Gm C (Gm C (G.e (Ah call342 C C (Db (J:=e8 b [hw,ow,lw,nw,e7 (n.sink)] 339::vc 336 hw (hs)::vc 3 lw (L1)::vc 3 nw (nx2)::I) A1 (Push_ok hok hr ho hrow hlL1 hVL1.low n.nodes.toNat 0 om n.source 4611686018427387904 f nx2 hs hVL1.src hsrc.1 hsrc.2 (by rw [hVL1.src];exact Int.le_refl _) om om hh (λu h0 h1 j hj=>by rw [hzL1 u h0 h1] at hj;omega) (λz h0 h1=>by rw [hzL1 z h0 h1];exact Int.le_refl _) hnL1))) ?_)))))))
  rintro _ _ ⟨_,_,⟨d3,f4,hs5,nx6,rfl,⟨hbd3,hPd3,hHd3,hAd3⟩,rfl⟩,rfl,rfl⟩
  show G prog κ _ _ _ _ ([(12,e7 d3),(11,e7 (n.source)),(10,.pointer (some ⟨b,0,none⟩)),(9,e7 val),(8,.bool (decide (0<=e_ L1 n.sink))),(7,e7 (n.source)),(6,.pointer (some ⟨b,0,none⟩)),(0,.pointer (some ⟨b,0,none⟩)),(1,e7 (n.source)),(5,e7 val)]:Env) (e8 b [hw,ow,lw,nw,e7 (n.sink)] 339::vc 336 hw (hs5)::vc 3 lw (L1)::vc 3 nw (nx6)::I)
  have hfl:=hPd3.flow hok hf
  have hvb:=value_le hok hfl.1 (λz=>z==n.source) (by simp) (by simpa using λe=>hok.ne e.symm)
  have hcb:=(cut_nonneg_le hok (λz=>z==n.source)).2
  have hpos:1<=d3:=Int.not_lt.1 λh=>hAd3 om (by rw [hPd3.zero om];exact hVL1.go hok c8)
  have hnn:=hPd3.nlen
  exact Gr (Rad C C) (Ga C (Bi (Ak (B5 ((val+d3),(f4),(hs5),(L1),(nx6)) (by dsimp only;exact ⟨hfl.1,om,om,hHd3,om,om⟩)))))
 ·exact Bv (Al (Al (A5 (Aj (Ai (Gm C (Ga C (Af (A2 (A6 C C (e8 b [hw,ow,lw,nw,e7 (n.sink)] 339::vc 336 hw (hs)::vc 3 lw (L1)::vc 3 nw (nx2)::I) A1 ⟨val,f,hs,L1,nx2,rfl,⟨⟨hf,hval,hVL1.end hok c8⟩,hh⟩,rfl⟩))))))))))
section
variable {n:Net}{f todo:List Int}{rs:List Row}{x v:Int}{q:Nat}{ag:Bool}{seen:List Bool}
theorem goH_t{i:Int}(h:ag=true):leftH n f (mateH i)=goH n f ag i:=by unfold goH;rw [if_pos h]
theorem goH_f{i:Int}(h:ag=false):leftH n f i=goH n f ag i:=by unfold goH;rw [if_neg (by rw [h];decide)]
theorem RI.inc1(h:RI n f ag v (rowsL rs) seen todo x q)(hd:0<goH n f ag (e_ (e_ rs x).xs (q:Int))->e_ seen (toH n (e_ (e_ rs x).xs (q:Int)))=true):RI n f ag v (rowsL rs) seen todo x (q+1):=h.inc (by rw [rowsL_at];exact hd)
theorem RI.put1(hok:n.Ok)(h:RI n f ag v (rowsL rs) seen todo x q)(hx:0<=x)(hv:0<=v)(hi:InH n (e_ (e_ rs x).xs (q:Int))/\fromH n (e_ (e_ rs x).xs (q:Int))=x)(hl:0<goH n f ag (e_ (e_ rs x).xs (q:Int)))(hn:(!e_ seen (toH n (e_ (e_ rs x).xs (q:Int))))=true) :
  RI n f ag v (rowsL rs) (seen.set (toH n (e_ (e_ rs x).xs (q:Int))).toNat true) (todo++[toH n (e_ (e_ rs x).xs (q:Int))]) x (q+1)/\unB (seen.set (toH n (e_ (e_ rs x).xs (q:Int))).toNat true)+1=unB seen:=by
 have h1:=h.put hok hx hv hi.1 hi.2 hl (by simpa using hn)
 refine ⟨h1.1.inc1 λ_=>?_,h1.2⟩
 have hfo:=from_ok hok hi.1
 rw [C8 _ _ _ _ hfo.2.1.1 hfo.2.1.1 (by have:=h.len;omega),if_pos rfl]
theorem RI.over1(h:RI n f ag v (rowsL rs) seen todo x q)(hq:(e_ rs x).xs.length<=q):RI n f ag v (rowsL rs) seen todo (-1) 0:=h.over (by rw [rowsL_at];exact hq)
end
theorem Reached_ok{κ:Ctx}{I:List Item}{n:Net}{f:List Int}{hs:List Half}{rs:List Row}{b:Nat}{hw ow lw nw:Value}{v:Int}{ag:Bool}(hok:n.Ok)(hh:HOk n f hs)(hhs:Sl κ I hw hs)(hr:ROk n (rowsL rs))(ho:Sl κ I ow rs)(hrow:∀i:Int,0<=i->i<rs.length->Sl κ I (.slice (e_ rs i).a (e_ rs i).xs.length (e_ rs i).c) (e_ rs i).xs)(hv:0<=v/\v<n.nodes):eu prog κ 318 [.pointer (some ⟨b,0,none⟩),e7 v,.bool ag] (e8 b [hw,ow,lw,nw,e7 (n.sink)] 339::I) (λr J=>∃(a:Option Addr) (c:Nat) (seen:List Bool),r = .slice a seen.length c/\Seen n f ag v seen/\J=vc 4 (.slice a seen.length c) seen::e8 b [hw,ow,lw,nw,e7 (n.sink)] 339::I):=by
 have hlim:=hok.lim
 have hsrc:=hok.src
 have hsnk:=hok.snk
 have hhl:=hh.len
 have hrl:=hr.rl
 refine Ce3 Tryz.func318 C C ?_
 refine Ai (Ga C (Af (Ai (Gm C (Gr (Bm C) (Gf fld339_1 C (Gl ty79 ?_)))))))
 refine Gr (B0 (α:=Row) (xs:=rs) Cl C (Ba ho)) (Ge2 (Cp (α:=Bool) (n:=rs.length) Co ty4 C C C om om dc C) λad1 cp2=>?_)
 have hrp:(replicate rs.length (default:Bool)).length=rs.length:=List.length_replicate
 refine Ga C (Af (Ai (Gm C (Gm C (Gr (Az (α:=Bool) (xs:=replicate rs.length (default:Bool)) Co ty4 C C Bk om om) (Ge0 (Cx (α:=Bool) (xs:=replicate rs.length (default:Bool)) (e:=4) (new:=true) ty4 C C C om om am) ?_))))))
 have h0:∀z:Int,0<=z->z<n.nodes->e_ (replicate rs.length (default:Bool)) z=false:=λz a b=>at_rep _ _ _ a om
 have hst:=RI.start (f:=f) (ag:=ag) (rs:=rowsL rs) hv (s0:=replicate rs.length (default:Bool)) (by rw [List.length_replicate];exact hrl) h0
 have hst2:unB (List.set (replicate rs.length (default:Bool)) v.toNat true)+[v].length<=n.nodes.toNat+1:=by have h9:=List.count_le_length (a:=false) (l:=List.set (replicate rs.length (default:Bool)) v.toNat true);rw [List.length_set,List.length_replicate] at h9;unfold unB;simp only [List.length_cons,List.length_nil];omega
 refine Af (Aq (S4 7 0 1 2 C C C C) (Ap (Ai (Gm C (Ge1 (Cf (α:=Int) (cs:=[_]) (xs:=[v]) Ac ef C C dc dc C C C C) λad3=>?_)))))
 refine Ga C (Af (A0 (B1 (σ:=(Option Addr)×Nat×(List Int)×(List Bool)) (λs=>([(0,.pointer (some ⟨b,0,none⟩)),(2,.bool ag),(7,.slice ad1 (replicate rs.length (default:Bool)).length cp2),(8,.slice s.1 s.2.2.1.length s.2.1)]:Env)) (λs=>vc 3 (.slice s.1 s.2.2.1.length s.2.1) (s.2.2.1)::vc 4 (.slice ad1 (replicate rs.length (default:Bool)).length cp2) (s.2.2.2)::e8 b [hw,ow,lw,nw,e7 (n.sink)] 339::I) (λs=>(RI n f ag v (rowsL rs) s.2.2.2 s.2.2.1 (-1) 0)/\(unB s.2.2.2+s.2.2.1.length<=n.nodes.toNat+1)) (λs=>unB s.2.2.2+s.2.2.1.length) (ad3,1,[v],List.set (replicate rs.length (default:Bool)) (v).toNat (true)) (show (RI n f ag v (rowsL rs) (List.set (replicate rs.length (default:Bool)) (v).toNat (true):List Bool) ([v]:List Int) (-1) 0)/\(unB (List.set (replicate rs.length (default:Bool)) (v).toNat (true):List Bool)+([v]:List Int).length<=n.nodes.toNat+1) from ⟨hst,hst2⟩) (Aa C (Aa C (Aa C (Aa (Dl C (by first|rfl|simp)) Bp)))) (show Fit κ _ (vc 3 (.slice ad3 ([v]).length 1) (([v]))::vc 4 (.slice ad1 (replicate rs.length (default:Bool)).length cp2) ((List.set (replicate rs.length (default:Bool)) (v).toNat (true)))::e8 b [hw,ow,lw,nw,e7 (n.sink)] 339::I) from A1) ?_)))
 rintro ⟨a,c,todo,seen⟩ hp
 dsimp only at hp ⊢
 obtain ⟨hI,hub⟩:=hp
 have hl2:=hI.len
 refine Ap (Ai (Gm C (Gr (Bs Ac C) (Gr (Bw C C) (Af (A8 C (λc26=>?_) (λc26=>?_)))))))
 ·refine Ay (Aj (Ap (A0 (Ap (Bl mixed (Bt (vc 3 (.slice a todo.length c) (todo)::vc 4 (.slice ad1 (replicate rs.length (default:Bool)).length cp2) (seen)::e8 b [hw,ow,lw,nw,e7 (n.sink)] 339::I) 11 (Dr 0 C (Ad C) ?_)))))))
  have hx0:=hI.wait _ (Bf (xs:=todo) (i:=0) om om)
  refine Dr 1 C (Bm C) (Dr 2 C (Ab fld339_1 C) (Dr 3 C (As ty79) ?_))
  refine Dr 4 C (Ad C) (Dr 5 C (Az (α:=Int) (xs:=todo) Ac ef C C Bk om om) (Dr 6 C (Bo (xs:=todo) ef C Bk om om) (Dr 7 C (Az (α:=Row) (xs:=rs) Cl ty22 C C (Ba ho) om om) (Dr 8 C (Dj (α:=Row) (xs:=rs) (u:= .slice (e_ rs (e_ todo 0)).a (e_ rs (e_ todo 0)).xs.length (e_ rs (e_ todo 0)).c) ty22 C (Ba ho) om om C) (Dr 9 C (Bs Ac C) (Dr 10 C (Ad C) (Dz (Aj (Aq (S7 39 38 37 0 2 7 8 C C C C C C C) (A0 (B1 (σ:=Nat×(Option Addr)×Nat×(List Int)×(List Bool)) (λs=>([(0,.pointer (some ⟨b,0,none⟩)),(2,.bool ag),(7,.slice ad1 (replicate rs.length (default:Bool)).length cp2),(8,.slice s.2.1 s.2.2.2.1.length s.2.2.1),(37,.slice (e_ rs (e_ todo 0)).a (e_ rs (e_ todo 0)).xs.length (e_ rs (e_ todo 0)).c),(38,e7 ((((e_ rs (e_ todo 0)).xs.length:Nat):Int))),(39,e7 ((s.1:Nat):Int))]:Env)) (λs=>vc 3 (.slice s.2.1 s.2.2.2.1.length s.2.2.1) (s.2.2.2.1)::vc 4 (.slice ad1 (replicate rs.length (default:Bool)).length cp2) (s.2.2.2.2)::e8 b [hw,ow,lw,nw,e7 (n.sink)] 339::I) (λs=>(s.1<=(e_ rs (e_ todo 0)).xs.length)/\(0<s.2.2.2.1.length)/\(e_ s.2.2.2.1 0=(e_ todo 0))/\(RI n f ag v (rowsL rs) s.2.2.2.2 (s.2.2.2.1.drop 1) (e_ todo 0) s.1)/\(unB s.2.2.2.2+s.2.2.2.1.length=unB seen+todo.length)) (λs=>(e_ rs (e_ todo 0)).xs.length - s.1) (0,a,c,todo,seen) (show ((0:Nat)<=(e_ rs (e_ todo 0)).xs.length)/\(0<(todo:List Int).length)/\(e_ (todo:List Int) 0=(e_ todo 0))/\(RI n f ag v (rowsL rs) (seen:List Bool) ((todo:List Int).drop 1) (e_ todo 0) (0:Nat))/\(unB (seen:List Bool)+(todo:List Int).length=unB seen+todo.length) from ⟨om,om,rfl,(hI.next om),rfl⟩) (Aa C (Aa C (Aa C (Aa (Dl C (by first|rfl|simp)) (Aa C (Aa C (Aa Ca Bp))))))) (show Fit κ _ (vc 3 (.slice a (todo).length c) ((todo))::vc 4 (.slice ad1 (replicate rs.length (default:Bool)).length cp2) ((seen))::e8 b [hw,ow,lw,nw,e7 (n.sink)] 339::I) from A1) ?_)))))))))))
  rintro ⟨q,a1,c1,w,seen1⟩ hp
  dsimp only at hp ⊢
  obtain ⟨hq,hwl,hw0,hI1,hmu⟩:=hp
  refine W.pull (λw hs=>(Cv (hrow (e_ todo 0) om om) A3).le w hs) λhrm=>?_
  have hl3:=hI1.len
  refine Ai (Gr (A7 C C) (Af (Ap (A8 C (λc40=>?_) (λc40=>?_)))))
  ·refine Ay (Aj (Ap (A0 (Ai (Gr (Az (α:=Int) (xs:=(e_ rs (e_ todo 0)).xs) Ac ef C C (Cv (hrow (e_ todo 0) om om) A3) om om) (Gr (Bo (xs:=(e_ rs (e_ todo 0)).xs) ef C (Cv (hrow (e_ todo 0) om om) A3) om om) ?_))))))
   have hm:=hr.row hx0.1.1 hx0.1.2 (j:=(q:Int)) om om
   have hg:=hh.get _ hm.1
   have hfo:=from_ok hok hm.1
   have hi2:0<=(e_ (e_ rs (e_ todo 0)).xs (q:Int))/\(e_ (e_ rs (e_ todo 0)).xs (q:Int))<2*n.arcs.length:=hm.1
   have hmi:0<=mateH (e_ (e_ rs (e_ todo 0)).xs (q:Int))/\mateH (e_ (e_ rs (e_ todo 0)).xs (q:Int))<2*n.arcs.length:=hm.1.mate
   have hg2:=hh.get _ hm.1.mate
   refine Ga C (Af (Ap (Bl mixed (Bt (vc 3 (.slice a1 w.length c1) (w)::vc 4 (.slice ad1 (replicate rs.length (default:Bool)).length cp2) (seen1)::e8 b [hw,ow,lw,nw,e7 (n.sink)] 339::I) 19 (Dr 0 C (Ad C) (Dr 1 C (Bm C) (Dr 2 C (Ab fld339_0 C) (Dr 3 C (As ty337) ?_))))))))
   refine Dr 4 C (Ad C) (Dr 5 C (Az (α:=Half) (xs:=hs) Ci ty336 C C (Ba hhs) om om) (Dr 6 C (Ef (α:=Half) (xs:=hs) fld336_0 C (Ba hhs) om) (Dr 7 C (Ef (α:=Half) (xs:=hs) fld305_1 C (Ba hhs) om) (Dr 8 C (Et (α:=Half) (xs:=hs) (u:=e7 ((e_ hs (e_ ((e_ rs (e_ todo 0)).xs) (q:Int))).dst)) ef C (Ba hhs) om om C) (Dr 9 C (Ad C) (Dr 10 C (Bm C) (Dr 11 C (Ab fld339_0 C) (Dr 12 C (As ty337) ?_))))))))
   refine Dr 13 C (Ad C) (Dr 14 C (Az (α:=Half) (xs:=hs) Ci ty336 C C (Ba hhs) om om) (Dr 15 C (Ef (α:=Half) (xs:=hs) fld336_1 C (Ba hhs) om) (Dr 16 C (Et (α:=Half) (xs:=hs) (u:=e7 ((e_ hs (e_ ((e_ rs (e_ todo 0)).xs) (q:Int))).left)) ef C (Ba hhs) om om C) (Dr 17 C (Bb C) (Dr 18 C (Bb C) (Dz (Aj (Aq (S10 12 11 10 0 2 7 8 37 38 39 C C C C C C C C C C) (W.cut (σ:=Int) (λs=>([(0,.pointer (some ⟨b,0,none⟩)),(2,.bool ag),(7,.slice ad1 (replicate rs.length (default:Bool)).length cp2),(8,.slice a1 w.length c1),(11,e7 ((e_ hs (e_ ((e_ rs (e_ todo 0)).xs) (q:Int))).dst)),(12,e7 s),(37,.slice (e_ rs (e_ todo 0)).a (e_ rs (e_ todo 0)).xs.length (e_ rs (e_ todo 0)).c),(38,e7 ((((e_ rs (e_ todo 0)).xs.length:Nat):Int))),(39,e7 ((q:Int)))]:Env)) (λs=>vc 3 (.slice a1 w.length c1) (w)::vc 4 (.slice ad1 (replicate rs.length (default:Bool)).length cp2) (seen1)::e8 b [hw,ow,lw,nw,e7 (n.sink)] 339::I) (λs=>(s=goH n f ag (e_ (e_ rs (e_ todo 0)).xs (q:Int)))) ?_ ?_)))))))))
   ·refine Ai (Gm C (Af (W.cond C (λc60=>?_) (λc60=>?_))))
    ·refine Ax (Gm C (Gr (Bm C) (Gf fld339_0 C (Gl ty337 ?_))))
     exact Gm C (Gr ((xor_mate (i:=e_ ((e_ rs (e_ todo 0)).xs) (q:Int)) om om)▸Runs.xorw C C) (Gr (Az (α:=Half) (xs:=hs) Ci ty336 C C (Ba hhs) om om) (Gr (Ef (α:=Half) (xs:=hs) fld336_1 C (Ba hhs) om) (Gr (Et (α:=Half) (xs:=hs) (u:=e7 ((e_ hs (mateH (e_ ((e_ rs (e_ todo 0)).xs) (q:Int)))).left)) ef C (Ba hhs) om om C) (Ga C (Bi (C9 (((e_ hs (mateH (e_ ((e_ rs (e_ todo 0)).xs) (q:Int)))).left)) (by first|exact hg.2.2.trans (goH_f c60)|exact hg2.2.2.trans (goH_t c60)))))))))
    ·exact Ay (C9 (((e_ hs (e_ ((e_ rs (e_ todo 0)).xs) (q:Int))).left)) (by first|exact hg.2.2.trans (goH_f c60)|exact hg2.2.2.trans (goH_t c60)))
   ·rintro lft hp
    have hlft:(lft=goH n f ag (e_ (e_ rs (e_ todo 0)).xs (q:Int))):=hp
    show W prog κ 88 _ _ ([(0,.pointer (some ⟨b,0,none⟩)),(2,.bool ag),(7,.slice ad1 (replicate rs.length (default:Bool)).length cp2),(8,.slice a1 w.length c1),(11,e7 ((e_ hs (e_ ((e_ rs (e_ todo 0)).xs) (q:Int))).dst)),(12,e7 lft),(37,.slice (e_ rs (e_ todo 0)).a (e_ rs (e_ todo 0)).xs.length (e_ rs (e_ todo 0)).c),(38,e7 ((((e_ rs (e_ todo 0)).xs.length:Nat):Int))),(39,e7 ((q:Int)))]:Env) (vc 3 (.slice a1 w.length c1) (w)::vc 4 (.slice ad1 (replicate rs.length (default:Bool)).length cp2) (seen1)::e8 b [hw,ow,lw,nw,e7 (n.sink)] 339::I)
    refine Ai (Gm C (Gr (Bw C C) (Gm C (Bg (d:=72) C (λg72=>?_) (λg72=>?_)))))
    ·refine e9 (Ad C) (e9 (Ad C) (e9 (Az (α:=Bool) (xs:=seen1) Co ty4 C C Bk om om) (e9 (Runs.getB (xs:=seen1) ty4 C Bk om om) (e9 (B4 C) (Gr (Ar C C) (Af (Aq (S9 78 0 2 7 8 11 37 38 39 C C C C C C C C C) (W.cond C (λc78=>?_) (λc78=>?_)))))))))
     ·refine Ai (Gm C (Gm C (Gr (Az (α:=Bool) (xs:=seen1) Co ty4 C C Bk om om) (Ge0 (Cx (α:=Bool) (xs:=seen1) (e:=4) (new:=true) ty4 C C C om om am) ?_))))
      refine Af (Ax (Gm C (Gm C (Ge1 (Cf (α:=Int) (cs:=[_]) (xs:=[(e_ hs (e_ ((e_ rs (e_ todo 0)).xs) (q:Int))).dst]) Ac ef C C dc dc C C C C) λad4=>?_))))
      refine Ge2 (Cm (α:=Int) (e:=3) (xs:=w) (ys:=([(e_ hs (e_ ((e_ rs (e_ todo 0)).xs) (q:Int))).dst]:List Int)) Ac ef C C C mm Bk lcn dc C (λ_ _=>am)) λad5 cp6=>?_
      exact Ga C (Bi (Ak (Aj (Aq (S7 8 0 2 7 37 38 39 C C C C C C C) (Ax (Gr (Rad C C) (Gm C (Bi (B5 ((q+1),(ad5),(cp6),(w++([(e_ hs (e_ ((e_ rs (e_ todo 0)).xs) (q:Int))).dst]:List Int)),(List.set seen1 ((e_ hs (e_ ((e_ rs (e_ todo 0)).xs) (q:Int))).dst).toNat (true))) (by dsimp only;exact ⟨om,(by first|exact hwl|(rw [List.length_append];omega)),(by first|exact hw0|(rw [at_zero_append hwl];exact hw0)),(by first|exact hI1.inc1 (λh=>by omega)|exact hI1.inc1 (λ_=>by rw [←hg.2.1];simpa using c78)|(rw [hg.2.1,drop_one_append hwl];exact (hI1.put1 hok hx0.1.1 hv.1 hm om (by rw [←hg.2.1];exact c78)).1)),(by first|exact hmu|(rw [hg.2.1,List.length_append];have:=(hI1.put1 hok hx0.1.1 hv.1 hm om (by rw [←hg.2.1];exact c78)).2;simp only [List.length_cons,List.length_nil];omega))⟩))))))))))
     ·exact Ay (Ak (Aj (Ax (Gr (Rad C C) (Gm C (Bi (B5 ((q+1),(a1),(c1),(w),(seen1)) (by dsimp only;exact ⟨om,(by first|exact hwl|(rw [List.length_append];omega)),(by first|exact hw0|(rw [at_zero_append hwl];exact hw0)),(by first|exact hI1.inc1 (λh=>by omega)|exact hI1.inc1 (λ_=>by rw [←hg.2.1];simpa using c78)|(rw [hg.2.1,drop_one_append hwl];exact (hI1.put1 hok hx0.1.1 hv.1 hm om (by rw [←hg.2.1];exact c78)).1)),(by first|exact hmu|(rw [hg.2.1,List.length_append];have:=(hI1.put1 hok hx0.1.1 hv.1 hm om (by rw [←hg.2.1];exact c78)).2;simp only [List.length_cons,List.length_nil];omega))⟩))))))))
    ·exact eb (eb (eb (eb (eb (Gr (Ao C C) (Af (Aq (S9 78 0 2 7 8 11 37 38 39 C C C C C C C C C) (C2 C (Ay (Ak (Aj (Ax (Gr (Rad C C) (Gm C (Bi (B5 ((q+1),(a1),(c1),(w),(seen1)) (by dsimp only;exact ⟨om,(by first|exact hwl|(rw [List.length_append];omega)),(by first|exact hw0|(rw [at_zero_append hwl];exact hw0)),(by first|exact hI1.inc1 (λh=>by omega)|exact hI1.inc1 (λ_=>by rw [←hg.2.1];simpa using c78)|(rw [hg.2.1,drop_one_append hwl];exact (hI1.put1 hok hx0.1.1 hv.1 hm om (by rw [←hg.2.1];exact c78)).1)),(by first|exact hmu|(rw [hg.2.1,List.length_append];have:=(hI1.put1 hok hx0.1.1 hv.1 hm om (by rw [←hg.2.1];exact c78)).2;simp only [List.length_cons,List.length_nil];omega))⟩)))))))))))))))))
  ·refine Bv (Al (Al (A5 (Ak (Aj (Ax (Gm C (Gr (E0 (α:=Int) (xs:=w) (l:=1) Ac ef C C om Bk om) (G.fit (J:=vc 3 (.slice (adrop a1 c1 1 (Enc.sz Int)) (List.drop 1 w).length (c1 - 1)) (List.drop 1 w)::vc 4 (.slice ad1 (replicate rs.length (default:Bool)).length cp2) (seen1)::e8 b [hw,ow,lw,nw,e7 (n.sink)] 339::I) (Fit.upd am (reslice (l:=1) om)) ?_)))))))))
   exact Ga C (Bi (B5 (((adrop a1 c1 1 (Enc.sz Int))),((c1 - 1)),(List.drop 1 w),(seen1)) (by dsimp only;exact ⟨(hI1.over1 om),(by rw [List.length_drop];omega)⟩) (hlt:=by (try dsimp only);exact (by rw [List.length_drop];omega))))
 ·refine Bv (Al (Al (A5 (Aj (Ai (Gm C (Ga C (Af (A2 ?_)))))))))
  have hdn:=hI.done hok hr om
  have hsl:(replicate rs.length (default:Bool)).length=seen.length:=by rw [List.length_replicate];omega
  exact A6 C C (vc 4 (.slice ad1 (replicate rs.length (default:Bool)).length cp2) (seen)::e8 b [hw,ow,lw,nw,e7 (n.sink)] 339::I) A1 ⟨ad1,cp2,seen,by rw [hsl],hdn,by rw [hsl]⟩
end Go.Sl
