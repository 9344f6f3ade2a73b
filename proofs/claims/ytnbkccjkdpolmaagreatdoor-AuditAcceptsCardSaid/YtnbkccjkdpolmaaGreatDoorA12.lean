/- A part of the proofs of statements of this seat: contracts of functions, and the plain laws that they lean on. No conditions. -/
import Derived.Test.YtnbkccjkdpolmaaGreatDoorA11
set_option linter.unusedVariables false
set_option linter.unusedSimpArgs false
set_option linter.unusedSectionVars false
open List (replicate)
namespace Go.Sl
open Go.Proofs
set_option maxRecDepth 4000
variable{rs:List Row}{b:Nat}{hw lw nw ow:Value}{L:List Int}
variable {κ:Ctx}{I:List Item}
attribute [local irreducible] W G V D A Runs Eff
theorem Push_ok{n:Net}(ad:n.Ok)(hr:ROk n (rowsL rs))(ho:Sl κ I ow rs)(ab:∀i:Int,0<=i->i<rs.length->Sl κ I (.slice (e_ rs i).a (e_ rs i).xs.length (e_ rs i).c) (e_ rs i).xs)(hL:(L.length:Int)=n.nodes)(M:∀z:Int,0<=z->z<n.nodes-> -1<=e_ L z/\e_ L z<n.nodes):∀(d:Nat) (lv:Int),n.nodes - lv<=d->PushC κ I n rs b hw ow lw nw L lv:=by
 intro d
 induction d with
 |zero=>
  intro lv hd v most f nx hs aa h0 h1
  have:=(M v h0 h1).2
  omega
 |succ d ih=>
  intro lv hd v most f nx hs aa h0 h1 h2 h3 h4 h5 h6 h7 h8
  exact Push_step ad hr ho ab hL M (ih (lv+1) om) aa h0 h1 h2 h3 h4 h5 h6 h7 h8
theorem Greatest_ok{n:Net}{f:List Int}{hs:List Half}{nx:List Int}(M:n.Ok)(hh:HOk n f hs)(hr:ROk n (rowsL rs))(ho:Sl κ I ow rs)(ah:∀i:Int,0<=i->i<rs.length->Sl κ I (.slice (e_ rs i).a (e_ rs i).xs.length (e_ rs i).c) (e_ rs i).xs)(hL:(L.length:Int)=n.nodes)(hN:(nx.length:Int)=n.nodes)(hf:IsFlow n f)(an:netF n f n.source=0):eu Tryz.prog κ 306 [.pointer (some ⟨b,0,none⟩),e7 (n.source)] (e8 b [hw,ow,lw,nw,e7 (n.sink)] 315::vc 312 hw (hs)::vc 3 lw (L)::vc 3 nw (nx)::I) (λr J=>∃(val:Int) (f':List Int) (hs':List Half) (L' nx':List Int),r=e7 val/\(Full n f' val/\HOk n f' hs')/\J=e8 b [hw,ow,lw,nw,e7 (n.sink)] 315::vc 312 hw (hs')::vc 3 lw (L')::vc 3 nw (nx')::I):=by
 have aw:=M.lim
 have ae:=M.src
 have ay:=M.snk
 refine Ce2 Tryz.func306 C C<|Z ?_
 refine Cn (σ:=Int×(List Int)×(List Half)×(List Int)×(List Int)) (λs=>([(0,.pointer<|some ⟨b,0,none⟩),(1,e7<|n.source),(5,e7<|s.1)]:Env)) (λs=>e8 b [hw,ow,lw,nw,e7<|n.sink] 315::vc 312 hw (s.2.2.1)::vc 3 lw (s.2.2.2.1)::vc 3 nw (s.2.2.2.2)::I) (λs=>(IsFlow n s.2.1)/\(s.1=netF n s.2.1 n.source)/\(0<=s.1)/\(HOk n s.2.1 s.2.2.1)/\((s.2.2.2.1.length:Int)=n.nodes)/\((s.2.2.2.2.length:Int)=n.nodes)) (λs=>(18014398509481984 - s.1).toNat) (0,f,hs,L,nx) ⟨hf,an.symm,om,hh,hL,hN⟩ (Ab C<|Ab C<|Ab Dg Bs) Aj ?_
 rintro ⟨val,f,hs,L,nx⟩ hp
 dsimp only at hp ⊢
 obtain ⟨hf,ar,an,hh,hL,hN⟩:=hp
 refine A5<|Ar<|Gm C<|Gm C<|G.e (Ac c_ C C<|Layers_ok (n:=n) (f:=f) M hh hr ho ah om om) ?_
 rintro _ _ ⟨_,_,⟨L1,ad,rfl,⟨aa,ao,ai⟩,rfl⟩,rfl,rfl⟩
 have ap:=aa.len
 refine As<|Ap C (λc8=>Z ?_)<|λc8=>Z ?_
 ·refine G.e (Ac c_ C C<|Cv (J:=e8 b [hw,ow,lw,nw,e7<|n.sink] 315::vc 312 hw (hs)::vc 3 lw (L1)::vc 3 nw (ad)::I) Aj<|Push_ok M hr ho ah ap aa.low n.nodes.toNat 0 om n.source 4611686018427387904 f ad hs aa.src ae.1 ae.2 (by rw [aa.src];exact Int.le_refl _) om om hh (λu h0 h1 j hj=>by rw [ai u h0 h1] at hj;omega) (λz h0 h1=>by rw [ai z h0 h1];exact Int.le_refl _) ao) ?_
  rintro _ _ ⟨_,_,⟨d3,f4,av,au,rfl,⟨az,ab,aj,ak⟩,rfl⟩,rfl,rfl⟩
  have aq:=ab.flow M hf
  have a1:=value_le M aq.1 (λz=>z==n.source) (by simp) (by simpa using λe=>M.ne e.symm)
  have a3:=(cut_nonneg_le M<|λz=>z==n.source).2
  have ax:1<=d3:=Int.not_lt.1 λh=>ak om (by rw [ab.zero om];exact aa.go M c8)
  have a0:=ab.nlen
  refine Z ?_
  exact B5 ((val+d3),(f4),(av),(L1),(au))<|by dsimp only;exact ⟨aq.1,om,om,aj,om,om⟩
 exact Ai C C (e8 b [hw,ow,lw,nw,e7<|n.sink] 315::vc 312 hw (hs)::vc 3 lw (L1)::vc 3 nw (ad)::I) Aj ⟨val,f,hs,L1,ad,rfl,⟨⟨hf,ar,aa.end M c8⟩,hh⟩,rfl⟩
end Go.Sl
namespace Go.Sl
open Go.Proofs
set_option maxRecDepth 4000
variable{i:Int}{hs:List Half}{k:Nat}
section
variable {n:Net}{f todo:List Int}{rs:List Row}{x v:Int}{q:Nat}{ag:Bool}{seen:List Bool}
theorem goH_t(h:ag=true):leftH n f (mateH i)=goH n f ag i:=by unfold goH;rw [if_pos h]
theorem goH_f(h:ag=false):leftH n f i=goH n f ag i:=by unfold goH;rw [if_neg (by rw [h];decide)]
theorem RI.inc1(h:RI n f ag v (rowsL rs) seen todo x q)(M:0<goH n f ag (e_ (e_ rs x).xs (q:Int))->e_ seen (toH n (e_ (e_ rs x).xs (q:Int)))=true):RI n f ag v (rowsL rs) seen todo x (q+1):=h.inc (by rw [rowsL_at];exact M)
theorem RI.put1(aa:n.Ok)(h:RI n f ag v (rowsL rs) seen todo x q)(hx:0<=x)(hv:0<=v)(hi:InH n (e_ (e_ rs x).xs (q:Int))/\fromH n (e_ (e_ rs x).xs (q:Int))=x)(hl:0<goH n f ag (e_ (e_ rs x).xs (q:Int)))(hn:(!e_ seen (toH n (e_ (e_ rs x).xs (q:Int))))=true) :
  RI n f ag v (rowsL rs) (seen.set (toH n<|e_ (e_ rs x).xs (q:Int)).toNat true) (todo++[toH n (e_ (e_ rs x).xs (q:Int))]) x (q+1)/\unB (seen.set (toH n<|e_ (e_ rs x).xs (q:Int)).toNat true)+1=unB seen:=by
 have h1:=h.put aa hx hv hi.1 hi.2 hl (by simpa using hn)
 refine ⟨h1.1.inc1 λ_=>?_,h1.2⟩
 have M:=from_ok aa hi.1
 rw [C2 _ _ _ _ M.2.1.1 M.2.1.1 (by have:=h.len;omega),if_pos rfl]
theorem RI.over1(h:RI n f ag v (rowsL rs) seen todo x q)(M:(e_ rs x).xs.length<=q):RI n f ag v (rowsL rs) seen todo (-1) 0:=h.over (by rw [rowsL_at];exact M)
end
theorem Reached_ok{κ:Ctx}{I:List Item}{n:Net}{f:List Int}{rs:List Row}{b:Nat}{hw ow lw nw:Value}{v:Int}{ag:Bool}(ab:n.Ok)(hh:HOk n f hs)(ad:Sl κ I hw hs)(hr:ROk n (rowsL rs))(ho:Sl κ I ow rs)(ao:∀i:Int,0<=i->i<rs.length->Sl κ I (.slice (e_ rs i).a (e_ rs i).xs.length (e_ rs i).c) (e_ rs i).xs)(hv:0<=v/\v<n.nodes):eu Tryz.prog κ 284 [.pointer (some ⟨b,0,none⟩),e7 v,.bool ag] (e8 b [hw,ow,lw,nw,e7 (n.sink)] 315::I) (λr J=>∃(a:Option Addr) (c:Nat) (seen:List Bool),r = .slice a seen.length c/\Seen n f ag v seen/\J=vc 4 (.slice a seen.length c) seen::e8 b [hw,ow,lw,nw,e7 (n.sink)] 315::I):=by
 have bb:=ab.lim
 have a8:=ab.src
 have a9:=ab.snk
 have bk:=hh.len
 have a5:=hr.rl
 refine Ce3 Tryz.func284 C C ?_
 refine Ar<|Ga C<|As<|Ar<|Gm C<|Gr (Bo C)<|Gf fld315_1 C<|Gl ty218 ?_
 refine Gr (Da (α:=Row) (xs:=rs) Bp C<|Au ho)<|Ge2 (Cj (α:=Bool) (n:=rs.length) Cq ty4 C C C om om dc C) λaj ah=>?_
 have bn:(replicate rs.length (default:Bool)).length=rs.length:=List.length_replicate
 refine Ga C<|As<|Ar<|Gm C<|Gm C<|Gr (Az (α:=Bool) (xs:=replicate rs.length (default:Bool)) Cq ty4 C C A7 om om)<|Ge0 (Ci (α:=Bool) (xs:=replicate rs.length (default:Bool)) (e:=4) (new:=true) ty4 C C C om om am) ?_
 have h0:∀z:Int,0<=z->z<n.nodes->e_ (replicate rs.length (default:Bool)) z=false:=λz a b=>Fy _ _ _ a om
 have a6:=RI.start (f:=f) (ag:=ag) (rs:=rowsL rs) hv (s0:=replicate rs.length (default:Bool)) (by rw [List.length_replicate];exact a5) h0
 have au:unB (List.set (replicate rs.length (default:Bool)) v.toNat true)+[v].length<=n.nodes.toNat+1:=by have h9:=List.count_le_length (a:=false) (l:=List.set (replicate rs.length (default:Bool)) v.toNat true);rw [List.length_set,List.length_replicate] at h9;unfold unB;simp only [List.length_cons,List.length_nil];omega
 refine As<|Bg (S4 7 0 1 2 C C C C)<|A5<|Ar<|Gm C<|Ge1 (B9 (α:=Int) (cs:=[_]) (xs:=[v]) Aa ef C C dc dc C C C C) λa3=>?_
 refine Ga C<|As<|Bk<|Cn (σ:=(Option Addr)×Nat×(List Int)×(List Bool)) (λs=>([(0,.pointer<|some ⟨b,0,none⟩),(2,.bool ag),(7,.slice aj (replicate rs.length (default:Bool)).length ah),(8,.slice s.1 s.2.2.1.length s.2.1)]:Env)) (λs=>vc 3 (.slice s.1 s.2.2.1.length s.2.1) (s.2.2.1)::vc 4 (.slice aj (replicate rs.length (default:Bool)).length ah) (s.2.2.2)::e8 b [hw,ow,lw,nw,e7<|n.sink] 315::I) (λs=>(RI n f ag v (rowsL rs) s.2.2.2 s.2.2.1 (-1) 0)/\(unB s.2.2.2+s.2.2.1.length<=n.nodes.toNat+1)) (λs=>unB s.2.2.2+s.2.2.1.length) (a3,1,[v],List.set (replicate rs.length (default:Bool)) (v).toNat (true)) ⟨a6,au⟩ (Ab C<|Ab C<|Ab C<|Ab (El C<|by first|rfl|simp) Bs) Aj ?_
 rintro ⟨a,c,todo,seen⟩ hp
 dsimp only at hp ⊢
 obtain ⟨hI,bi⟩:=hp
 have bc:=hI.len
 refine A5<|Ar<|Gm C<|Gr (Ca Aa C)<|Gr (Df C C)<|As<|Ap C (λa0=>?_)<|λa0=>?_
 ·refine Bt (Ay<|A5<|Bk<|A5<|A4 mixed<|Cr 11<|Dr 0 C (Af C) ?_)
  have ak:=hI.wait _ (Bx (xs:=todo) (i:=0) om om)
  refine Dr 1 C (Bo C)<|Dr 2 C (Ad fld315_1 C)<|Dr 3 C (Ax ty218) ?_
  refine Dr 4 C (Af C)<|Dr 5 C (Az (α:=Int) (xs:=todo) Aa ef C C A7 om om)<|Dr 6 C (Bj (xs:=todo) ef C A7 om om)<|Dr 7 C (Az (α:=Row) (xs:=rs) Bp ty22 C C (Au ho) om om)<|Dr 8 C (Dj (α:=Row) (xs:=rs) (u:= .slice (e_ rs<|e_ todo 0).a (e_ rs<|e_ todo 0).xs.length (e_ rs<|e_ todo 0).c) ty22 C (Au ho) om om C)<|Dr 9 C (Ca Aa C)<|Dr 10 C (Af C)<|Dz<|Ay<|Bg (S7 39 38 37 0 2 7 8 C C C C C C C)<|Bk<|Cn (σ:=Nat×(Option Addr)×Nat×(List Int)×(List Bool)) (λs=>([(0,.pointer<|some ⟨b,0,none⟩),(2,.bool ag),(7,.slice aj (replicate rs.length (default:Bool)).length ah),(8,.slice s.2.1 s.2.2.2.1.length s.2.2.1),(37,.slice (e_ rs<|e_ todo 0).a (e_ rs<|e_ todo 0).xs.length (e_ rs<|e_ todo 0).c),(38,e7<|(((e_ rs<|e_ todo 0).xs.length:Nat):Int)),(39,e7 ((s.1:Nat):Int))]:Env)) (λs=>vc 3 (.slice s.2.1 s.2.2.2.1.length s.2.2.1) (s.2.2.2.1)::vc 4 (.slice aj (replicate rs.length (default:Bool)).length ah) (s.2.2.2.2)::e8 b [hw,ow,lw,nw,e7<|n.sink] 315::I) (λs=>(s.1<=(e_ rs<|e_ todo 0).xs.length)/\(0<s.2.2.2.1.length)/\(e_ s.2.2.2.1 0=(e_ todo 0))/\(RI n f ag v (rowsL rs) s.2.2.2.2 (s.2.2.2.1.drop 1) (e_ todo 0) s.1)/\(unB s.2.2.2.2+s.2.2.2.1.length=unB seen+todo.length)) (λs=>(e_ rs<|e_ todo 0).xs.length - s.1) (0,a,c,todo,seen) (show ((0:Nat)<=(e_ rs<|e_ todo 0).xs.length)/\(0<(todo:List Int).length)/\(e_ (todo:List Int) 0=(e_ todo 0))/\(RI n f ag v (rowsL rs) (seen:List Bool) ((todo:List Int).drop 1) (e_ todo 0) (0:Nat))/\(unB (seen:List Bool)+(todo:List Int).length=unB seen+todo.length) from ⟨om,om,rfl,(hI.next om),rfl⟩) (Ab C<|Ab C<|Ab C<|Ab (El C<|by first|rfl|simp)<|Ab C<|Ab C<|Ab Dg Bs) Aj ?_
  rintro ⟨q,a1,c1,w,M⟩ hp
  dsimp only at hp ⊢
  obtain ⟨hq,ai,an,aa,aq⟩:=hp
  refine W.pull (λw hs=>(Bm (ao (e_ todo 0) om om) Ah).le w hs) λbg=>?_
  have bm:=aa.len
  refine Ar<|Gr (Ch C C)<|As<|A5<|Ap C (λa4=>?_)<|λa4=>?_
  ·refine Bt (Ay<|A5<|Bk<|Ar<|Gr (Az (α:=Int) (xs:=(e_ rs<|e_ todo 0).xs) Aa ef C C (Bm (ao (e_ todo 0) om om) Ah) om om)<|Gr (Bj (xs:=(e_ rs<|e_ todo 0).xs) ef C (Bm (ao (e_ todo 0) om om) Ah) om om) ?_)
   have hm:=hr.row ak.1.1 ak.1.2 (j:=(q:Int)) om om
   have hg:=hh.get _ hm.1
   have bf:=from_ok ab hm.1
   have be:0<=(e_ (e_ rs<|e_ todo 0).xs (q:Int))/\(e_ (e_ rs<|e_ todo 0).xs (q:Int))<2*n.arcs.length:=hm.1
   have bj:0<=mateH (e_ (e_ rs<|e_ todo 0).xs (q:Int))/\mateH (e_ (e_ rs<|e_ todo 0).xs (q:Int))<2*n.arcs.length:=hm.1.mate
   have av:=hh.get _ hm.1.mate
   refine Ga C<|As<|A5<|A4 mixed<|Cr 19<|Dr 0 C (Af C)<|Dr 1 C (Bo C)<|Dr 2 C (Ad fld315_0 C)<|Dr 3 C (Ax ty313) ?_
   refine Dr 4 C (Af C)<|Dr 5 C (Az (α:=Half) (xs:=hs) Ck ty312 C C (Au ad) om om)<|Dr 6 C (Ez (α:=Half) (xs:=hs) fld312_0 C (Au ad) om)<|Dr 7 C (Ez (α:=Half) (xs:=hs) fld284_1 C (Au ad) om)<|Dr 8 C (Fb (α:=Half) (xs:=hs) (u:=e7 ((e_ hs<|e_ ((e_ rs<|e_ todo 0).xs) (q:Int)).dst)) ef C (Au ad) om om C)<|Dr 9 C (Af C)<|Dr 10 C (Bo C)<|Dr 11 C (Ad fld315_0 C)<|Dr 12 C (Ax ty313) ?_
   refine Dr 13 C (Af C)<|Dr 14 C (Az (α:=Half) (xs:=hs) Ck ty312 C C (Au ad) om om)<|Dr 15 C (Ez (α:=Half) (xs:=hs) fld312_1 C (Au ad) om)<|Dr 16 C (Fb (α:=Half) (xs:=hs) (u:=e7 ((e_ hs<|e_ ((e_ rs<|e_ todo 0).xs) (q:Int)).left)) ef C (Au ad) om om C)<|Dr 17 C (A0 C)<|Dr 18 C (A0 C)<|Dz<|Ay<|Bg (S10 12 11 10 0 2 7 8 37 38 39 C C C C C C C C C C)<|E8 (σ:=Int) (λs=>([(0,.pointer<|some ⟨b,0,none⟩),(2,.bool ag),(7,.slice aj (replicate rs.length (default:Bool)).length ah),(8,.slice a1 w.length c1),(11,e7<|(e_ hs<|e_ ((e_ rs<|e_ todo 0).xs) (q:Int)).dst),(12,e7 s),(37,.slice (e_ rs<|e_ todo 0).a (e_ rs<|e_ todo 0).xs.length (e_ rs<|e_ todo 0).c),(38,e7<|(((e_ rs<|e_ todo 0).xs.length:Nat):Int)),(39,e7<|(q:Int))]:Env)) (λs=>vc 3 (.slice a1 w.length c1) (w)::vc 4 (.slice aj (replicate rs.length (default:Bool)).length ah) (M)::e8 b [hw,ow,lw,nw,e7<|n.sink] 315::I) (λs=>(s=goH n f ag (e_ (e_ rs<|e_ todo 0).xs (q:Int)))) ?_ ?_
   ·refine Ar (Gm C<|As<|D8 C (λap=>?_)<|λap=>?_)
    ·refine Be (Gm C<|Gr (Bo C)<|Gf fld315_0 C<|Gl ty313 ?_)
     exact Gm C<|Gr ((xor_mate (i:=e_ ((e_ rs<|e_ todo 0).xs) (q:Int)) om om)▸Runs.xorw C C)<|Gr (Az (α:=Half) (xs:=hs) Ck ty312 C C (Au ad) om om)<|Gr (Ez (α:=Half) (xs:=hs) fld312_1 C (Au ad) om)<|Gr (Fb (α:=Half) (xs:=hs) (u:=e7 ((e_ hs<|mateH<|e_ ((e_ rs<|e_ todo 0).xs) (q:Int)).left)) ef C (Au ad) om om C)<|Ga C<|Bi<|Cg (((e_ hs<|mateH<|e_ ((e_ rs<|e_ todo 0).xs) (q:Int)).left))<|by first|exact hg.2.2.trans (goH_f ap)|exact av.2.2.trans (goH_t ap)
    exact Bt<|Cg (((e_ hs<|e_ ((e_ rs<|e_ todo 0).xs) (q:Int)).left))<|by first|exact hg.2.2.trans (goH_f ap)|exact av.2.2.trans (goH_t ap)
   rintro aw hp
   have ba:(aw=goH n f ag (e_ (e_ rs<|e_ todo 0).xs (q:Int))):=hp
   refine Ar<|Gm C<|Gr (Df C C)<|Gm C<|A6 (d:=72) C (λaz=>?_)<|λaz=>?_
   ·refine e9 (Af C) (e9 (Af C)<|e9 (Az (α:=Bool) (xs:=M) Cq ty4 C C A7 om om)<|e9 (Runs.getB (xs:=M) ty4 C A7 om om)<|e9 (Cd C)<|Gr (A2 C C)<|As<|Bg (S9 78 0 2 7 8 11 37 38 39 C C C C C C C C C)<|D8 C (λae=>?_)<|λae=>?_)
    ·refine Ar (Gm C<|Gm C<|Gr (Az (α:=Bool) (xs:=M) Cq ty4 C C A7 om om)<|Ge0 (Ci (α:=Bool) (xs:=M) (e:=4) (new:=true) ty4 C C C om om am) ?_)
     refine As<|Be<|Gm C<|Gm C<|Ge1 (B9 (α:=Int) (cs:=[_]) (xs:=[(e_ hs<|e_ ((e_ rs<|e_ todo 0).xs) (q:Int)).dst]) Aa ef C C dc dc C C C C) λbh=>?_
     refine Ge2 (B4 (α:=Int) (e:=3) (xs:=w) (ys:=([(e_ hs<|e_ ((e_ rs<|e_ todo 0).xs) (q:Int)).dst]:List Int)) Aa ef C C C mm A7 lcn dc C<|λ_ _=>am) λay ax=>?_
     exact Ga C<|Bi<|Av<|Ay<|Bg (S7 8 0 2 7 37 38 39 C C C C C C C)<|Be<|Gr (Rad C C)<|Gm C<|Bi<|B5 ((q+1),(ay),(ax),(w++([(e_ hs<|e_ ((e_ rs<|e_ todo 0).xs) (q:Int)).dst]:List Int)),(List.set M ((e_ hs<|e_ ((e_ rs<|e_ todo 0).xs) (q:Int)).dst).toNat (true)))<|by dsimp only;exact ⟨om,(by first|exact ai|(rw [List.length_append];omega)),(by first|exact an|(rw [at_zero_append ai];exact an)),(by first|exact aa.inc1 (λh=>by omega)|exact aa.inc1 (λ_=>by rw [←hg.2.1];simpa using ae)|(rw [hg.2.1,drop_one_append ai];exact (aa.put1 ab ak.1.1 hv.1 hm om<|by rw [←hg.2.1];exact ae).1)),(by first|exact aq|(rw [hg.2.1,List.length_append];have:=(aa.put1 ab ak.1.1 hv.1 hm om<|by rw [←hg.2.1];exact ae).2;simp only [List.length_cons,List.length_nil];omega))⟩
    exact Bt<|Av<|Ay<|Be<|Gr (Rad C C)<|Gm C<|Bi<|B5 ((q+1),(a1),(c1),(w),(M))<|by dsimp only;exact ⟨om,(by first|exact ai|(rw [List.length_append];omega)),(by first|exact an|(rw [at_zero_append ai];exact an)),(by first|exact aa.inc1 (λh=>by omega)|exact aa.inc1 (λ_=>by rw [←hg.2.1];simpa using ae)|(rw [hg.2.1,drop_one_append ai];exact (aa.put1 ab ak.1.1 hv.1 hm om<|by rw [←hg.2.1];exact ae).1)),(by first|exact aq|(rw [hg.2.1,List.length_append];have:=(aa.put1 ab ak.1.1 hv.1 hm om<|by rw [←hg.2.1];exact ae).2;simp only [List.length_cons,List.length_nil];omega))⟩
   exact eb<|eb<|eb<|eb<|eb<|Gr (Ao C C)<|As<|Bg (S9 78 0 2 7 8 11 37 38 39 C C C C C C C C C)<|Ef C<|Bt<|Av<|Ay<|Be<|Gr (Rad C C)<|Gm C<|Bi<|B5 ((q+1),(a1),(c1),(w),(M))<|by dsimp only;exact ⟨om,(by first|exact ai|(rw [List.length_append];omega)),(by first|exact an|(rw [at_zero_append ai];exact an)),(by first|exact aa.inc1 (λh=>by omega)|exact aa.inc1 (λ_=>by rw [←hg.2.1];simpa using ae)|(rw [hg.2.1,drop_one_append ai];exact (aa.put1 ab ak.1.1 hv.1 hm om<|by rw [←hg.2.1];exact ae).1)),(by first|exact aq|(rw [hg.2.1,List.length_append];have:=(aa.put1 ab ak.1.1 hv.1 hm om<|by rw [←hg.2.1];exact ae).2;simp only [List.length_cons,List.length_nil];omega))⟩
  refine C7<|A9<|A9<|B3<|Av<|Ay<|Be<|Gm C<|Gr (Eb (α:=Int) (xs:=w) (l:=1) Aa ef C C om A7 om)<|G.fit (J:=vc 3 (.slice (adrop a1 c1 1<|Enc.sz Int) (List.drop 1 w).length (c1 - 1)) (List.drop 1 w)::vc 4 (.slice aj (replicate rs.length (default:Bool)).length ah) (M)::e8 b [hw,ow,lw,nw,e7<|n.sink] 315::I) (Fit.upd am<|reslice (l:=1) om) ?_
  exact Ga C<|Bi<|B5 (((adrop a1 c1 1<|Enc.sz Int)),((c1 - 1)),(List.drop 1 w),(M)) (by dsimp only;exact ⟨(aa.over1 om),(by rw [List.length_drop];omega)⟩) (hlt:=by (try dsimp only);exact (by rw [List.length_drop];omega))
 refine C7<|A9<|A9<|B3<|Ay<|Ar<|Gm C<|Ga C<|As<|Bf ?_
 have a7:=hI.done ab hr om
 have ar:(replicate rs.length (default:Bool)).length=seen.length:=by rw [List.length_replicate];omega
 exact Ai C C (vc 4 (.slice aj (replicate rs.length (default:Bool)).length ah) (seen)::e8 b [hw,ow,lw,nw,e7<|n.sink] 315::I) Aj ⟨aj,ah,seen,by rw [ar],a7,by rw [ar]⟩
variable {κ:Ctx}{I:List Item}
def rowsI(rs:List Row):List Item:=rs.map λr=>vc 3 (.slice r.a r.xs.length r.c) r.xs
theorem Fit.nilrows:∀N:Nat,Fit κ I (rowsI (replicate N (default:Row))++I)
 |0=>Fv _
 |N+1=>Ak (Fit.nilrows N) (Bw _ _)
theorem At.rows{I:List Item}{ad:Option Addr}{c:Nat}{xs:List Int}:∀{rs:List Row} {i:Int},0<=i->i<rs.length->
  At (rowsI rs++I) (vc 3 (.slice (e_ rs i).a (e_ rs i).xs.length (e_ rs i).c) (e_ rs i).xs) (vc 3 (.slice ad xs.length c) xs) (rowsI (List.set rs i.toNat ⟨ad,c,xs⟩)++I):=fun {rs} {i} M h=>by
 obtain ⟨k,rfl⟩:∃k:Nat,i=(k:Int):=⟨i.toNat,by omega⟩
 rw [Int.toNat_natCast]
 clear M
 induction rs generalizing k with
 |nil=>simp at h;omega
 |cons r rs ih=>
  cases k with
  |zero=>exact At.head _ _ _
  |succ k=>exact At.tail _ (ih k<|by simp at h;omega)
theorem rowsI_mem{I:List Item}{rs:List Row}(M:0<=i)(h:i<rs.length):vc 3 (.slice (e_ rs i).a (e_ rs i).xs.length (e_ rs i).c) (e_ rs i).xs∈rowsI rs++I:=(At.rows (ad:=none) (c:=0) (xs:=[]) M h).mem
theorem rowsI_sl{rs:List Row}(i:Int)(M:0<=i)(h:i<rs.length):Sl κ (rowsI rs++I) (.slice (e_ rs i).a (e_ rs i).xs.length (e_ rs i).c) (e_ rs i).xs:=Em (rowsI_mem M h)
structure OI (n:Net) (rs:List Row) (hs:List Half) (k:Nat):Prop where
 len:(rs.length:Int)=n.nodes
 hlen:hs.length=2*k
 get:∀i:Int,0<=i->i<2*k->(e_ hs i).frm=fromH n i/\(e_ hs i).dst=toH n i/\(e_ hs i).left=if i % 2=0 then (e_ n.arcs<|i / 2).cap else 0
 all:∀v,0<=v->v<n.nodes->∀i∈(e_ rs v).xs,(0<=i/\i<2*k)/\fromH n i=v
 has:∀i:Int,0<=i->i<2*k->i∈(e_ rs<|fromH n i).xs
 bnd:∀v,0<=v->v<n.nodes->(e_ rs v).xs.length<=2*k
theorem OI.start{n:Net}(M:n.Ok):OI n (replicate n.nodes.toNat (default:Row)) [] 0:=by
 have:=M.two
 have h:∀v,0<=v->v<n.nodes->e_ (replicate n.nodes.toNat (default:Row)) v=default:=λv a b=>Fy _ _ _ a om
 exact ⟨by rw [List.length_replicate];omega,rfl,λi a b=>by omega,λv a b i hi=>(by rw [h v a b] at hi;cases hi),λi a b=>om,λv a b=>(by rw [h v a b];exact Nat.zero_le _)⟩
theorem OI.step{n:Net}(ab:n.Ok){rs:List Row}(h:OI n rs hs k)(hk:k<n.arcs.length)(a1 a2:Option Addr)(c1 c2:Nat){x y u w:Int}(hx:x=2*k)(hy:y=2*k+1)(hu:u=(e_ n.arcs k).frm)(hw:w=(e_ n.arcs k).dst) :
  OI n (List.set (List.set rs u.toNat ⟨a1,c1,(e_ rs u).xs++[x]⟩) w.toNat ⟨a2,c2,(e_ (List.set rs u.toNat ⟨a1,c1,(e_ rs u).xs++[x]⟩) w).xs++[y]⟩)
   (hs++[⟨u,w,(e_ n.arcs k).cap,(e_ n.arcs k).cap⟩,⟨w,u,0,0⟩]) (k+1):=by
 have ha:=arc_at ab hk
 subst hx hy hu hw
 have hlen:=h.len
 have ae:=h.hlen
 generalize hA:e_ n.arcs k=A at *
 have f0:fromH n (2*(k:Int))=A.frm:=by unfold fromH;rw [if_pos om,show (2*(k:Int)) / 2=k from by omega,hA]
 have f1:fromH n (2*(k:Int)+1)=A.dst:=by unfold fromH;rw [if_neg om,show (2*(k:Int)+1) / 2=k from by omega,hA]
 have t0:toH n (2*(k:Int))=A.dst:=by unfold toH;rw [if_pos om,show (2*(k:Int)) / 2=k from by omega,hA]
 have t1:toH n (2*(k:Int)+1)=A.frm:=by unfold toH;rw [if_neg om,show (2*(k:Int)+1) / 2=k from by omega,hA]
 have e1:e_ (List.set rs A.frm.toNat ⟨a1,c1,(e_ rs A.frm).xs++[2*(k:Int)]⟩) A.dst=e_ rs A.dst:=by rw [C2 rs _ _ _ ha.1.1 ha.2.1.1 om,if_neg ha.2.2.1]
 have aa:∀v,0<=v->v<n.nodes->(e_ (List.set (List.set rs A.frm.toNat ⟨a1,c1,(e_ rs A.frm).xs++[2*(k:Int)]⟩) A.dst.toNat ⟨a2,c2,(e_ (List.set rs A.frm.toNat ⟨a1,c1,(e_ rs A.frm).xs++[2*(k:Int)]⟩) A.dst).xs++[2*(k:Int)+1]⟩) v).xs =
   (e_ rs v).xs++(if A.dst=v then [2*(k:Int)+1] else if A.frm=v then [2*(k:Int)] else []):=λv h0 h1=>by
  rw [C2 _ _ _ _ ha.2.1.1 h0 (by rw [List.length_set];omega),e1,C2 rs _ _ _ ha.1.1 h0 om]
  by_cases d1:A.dst=v
  ·rw [if_pos d1,if_pos d1,d1]
  rw [if_neg d1,if_neg d1]
  by_cases d2:A.frm=v
  ·rw [if_pos d2,if_pos d2,d2]
  rw [if_neg d2,if_neg d2,List.append_nil]
 refine ⟨by simp;exact hlen,by simp;omega,λi h0 h1=>?_,λv h0 h1 i hi=>?_,λi h0 h1=>?_,λv h0 h1=>?_⟩
 ·by_cases hi:i<2*k
  ·have:=h.get i h0 hi
   have e:e_ (hs++[⟨A.frm,A.dst,A.cap,A.cap⟩,⟨A.dst,A.frm,0,0⟩]) i=e_ hs i:=by
    have:=En hs [⟨A.frm,A.dst,A.cap,A.cap⟩,⟨A.dst,A.frm,0,0⟩] i.toNat om
    rwa [show ((i.toNat:Nat):Int)=i from by omega] at this
   rw [e];exact this
  have M:i=2*(k:Int)\/i=2*(k:Int)+1:=by omega
  rcases M with rfl|rfl
  ·have e:e_ (hs++[⟨A.frm,A.dst,A.cap,A.cap⟩,⟨A.dst,A.frm,0,0⟩]) (2*(k:Int))=⟨A.frm,A.dst,A.cap,A.cap⟩:=by
    unfold e_
    rw [show (2*(k:Int)).toNat=hs.length+0 from by omega,List.getD_eq_getElem?_getD,List.getElem?_append_right om,Nat.add_sub_cancel_left];rfl
   rw [e,f0,t0,if_pos om,show (2*(k:Int)) / 2=k from by omega,hA];exact ⟨rfl,rfl,rfl⟩
  have e:e_ (hs++[⟨A.frm,A.dst,A.cap,A.cap⟩,⟨A.dst,A.frm,0,0⟩]) (2*(k:Int)+1)=⟨A.dst,A.frm,0,0⟩:=by
   unfold e_
   rw [show (2*(k:Int)+1).toNat=hs.length+1 from by omega,List.getD_eq_getElem?_getD,List.getElem?_append_right om,Nat.add_sub_cancel_left];rfl
  rw [e,f1,t1,if_neg om];exact ⟨rfl,rfl,rfl⟩
 ·rw [aa v h0 h1] at hi
  rcases List.mem_append.1 hi with hi|hi
  ·have:=h.all v h0 h1 i hi
   exact ⟨by omega,this.2⟩
  by_cases d1:A.dst=v
  ·rw [if_pos d1] at hi
   rw [List.mem_singleton.1 hi];exact ⟨by omega,f1.trans d1⟩
  rw [if_neg d1] at hi
  by_cases d2:A.frm=v
  ·rw [if_pos d2] at hi
   rw [List.mem_singleton.1 hi];exact ⟨by omega,f0.trans d2⟩
  rw [if_neg d2] at hi;cases hi
 ·by_cases hi:i<2*k
  ·have:=h.has i h0 hi
   have ad:=arc_at ab (k:=(i / 2).toNat) om
   rw [show (((i / 2).toNat:Nat):Int)=i / 2 from by omega] at ad
   rw [aa _ (by unfold fromH;split<;>omega) (by unfold fromH;split<;>omega)]
   exact List.mem_append_left _ this
  have M:i=2*(k:Int)\/i=2*(k:Int)+1:=by omega
  rcases M with rfl|rfl
  ·rw [f0,aa _ ha.1.1 ha.1.2,if_neg<|λe=>ha.2.2.1 e.symm,if_pos rfl];exact List.mem_append_right _ (List.mem_singleton.2 rfl)
  rw [f1,aa _ ha.2.1.1 ha.2.1.2,if_pos rfl];exact List.mem_append_right _ (List.mem_singleton.2 rfl)
 rw [aa v h0 h1,List.length_append]
 have:=h.bnd v h0 h1
 split
 ·simp only [List.length_cons,List.length_nil];omega
 split<;>simp only [List.length_cons,List.length_nil]<;>omega
theorem OI.done{n:Net}(M:n.Ok){rs:List Row}(h:OI n rs hs k)(hk:k=n.arcs.length):HOk n (replicate n.arcs.length (0:Int)) hs/\ROk n (rowsL rs):=by
 subst hk
 have hz:=flow_zero n M
 have h0:∀j:Int,0<=j->j<n.arcs.length->e_ (replicate n.arcs.length (0:Int)) j=0:=λj a b=>Fy _ _ _ a b
 refine ⟨⟨by have:=h.hlen;omega,by simp,hz.1.cap,λi hi=>?_⟩,⟨by unfold rowsL;rw [List.length_map];exact h.len,λv a b i hi=>by rw [rowsL_at] at hi;exact h.all v a b i hi,λi hi=>by rw [rowsL_at];exact h.has i hi.1 hi.2⟩⟩
 have h1:=hi.half
 have:=h.get i hi.1 hi.2
 refine ⟨this.1,this.2.1,this.2.2.trans ?_⟩
 unfold leftH
 rw [h0 _ h1.1 h1.2]
 split<;>omega
set_option maxHeartbeats 4000000 in
theorem Open_ok{n:Net}{v:Value}(hl:Sl κ I v n.arcs)(aj:n.Ok):eu Tryz.prog κ 305 [.agg #[e7 (n.nodes),e7 (n.source),e7 (n.sink),v]] I (λr J=>∃(b:Nat) (hw ow lw nw:Value) (hs:List Half) (rs:List Row) (L nx:List Int),r = .pointer (some ⟨b,0,none⟩)/\(HOk n (replicate n.arcs.length (0:Int)) hs/\ROk n (rowsL rs)/\(L.length:Int)=n.nodes/\(nx.length:Int)=n.nodes)/\J=e8 b [hw,ow,lw,nw,e7 (n.sink)] 315::vc 312 hw (hs)::vc 3 lw (L)::vc 3 nw (nx)::(vc 22 ow rs::(rowsI rs++I))):=by
 refine Cv (J:=(rowsI (replicate n.nodes.toNat (default:Row))++I)) (Fit.nilrows _) ?_
 have b9:=hl
 have b7:=aj.lim
 have b6:=aj.two
 have b3:=aj.src
 have b5:=aj.snk
 refine Ce1 Tryz.func305 C C ?_
 refine Ar<|Ge1 (Al (cs:=[_,_,_,_]) C C C) λb1=>Ga C<|As<|E8 (σ:=Nat×(Option Addr)×Nat×(Option Addr)×Nat×(Option Addr)×Nat) (λs=>([(1,.pointer<|some ⟨b1,0,none⟩),(3,.pointer<|some ⟨s.1,0,none⟩)]:Env)) (λs=>e8 s.1 [.slice none 0 0,.slice s.2.1 (replicate n.nodes.toNat (default:Row)).length s.2.2.1,.slice s.2.2.2.1 (replicate n.nodes.toNat (default:Int)).length s.2.2.2.2.1,.slice s.2.2.2.2.2.1 (replicate n.nodes.toNat (default:Int)).length s.2.2.2.2.2.2,e7<|n.sink] 315::vc 22 (.slice s.2.1 (replicate n.nodes.toNat (default:Row)).length s.2.2.1) (replicate n.nodes.toNat (default:Row))::vc 3 (.slice s.2.2.2.1 (replicate n.nodes.toNat (default:Int)).length s.2.2.2.2.1) (replicate n.nodes.toNat (default:Int))::vc 3 (.slice s.2.2.2.2.2.1 (replicate n.nodes.toNat (default:Int)).length s.2.2.2.2.2.2) (replicate n.nodes.toNat (default:Int))::e8 b1 [e7 (n.nodes),e7<|n.source,e7<|n.sink,v] 282::(rowsI (replicate n.nodes.toNat (default:Row))++I)) (λs=>True) ?_ ?_
 ·refine A4 mixed (Cr 14<|Dr 0 C (Ad fld282_0 C)<|Dr 1 C (Ax ef) ?_)
  refine Dr 3 C (Ad fld282_0 C)<|Dr 4 C (Ax ef) ?_
  refine Dr 6 C (Ad fld282_0 C)<|Dr 7 C (Ax ef) ?_
  refine Dr 9 C (Ad fld282_2 C)<|Dr 10 C (Ax ef) ?_
  refine C0 (rs:=[2,5,8]) kr C C<|D6 ?_<|D6 ?_<|Dv ?_
  ·refine Se2 C (Cj (α:=Row) (n:=n.nodes.toNat) Bp ty22 C C C om om dc C) λa5 bj=>?_
   refine C0 (rs:=[5,8]) kr C C<|D6 ?_<|Dv ?_
   ·refine Se2 C (Cj (α:=Int) (n:=n.nodes.toNat) Aa ef C C C om om dc C) λbp b2=>?_
    refine Ds1 8<|Se2 C (Cj (α:=Int) (n:=n.nodes.toNat) Aa ef C C C om om dc C) λbz bt=>?_
    refine Dr 11 C (Br (cells:=[_,_,_,_,_]) ty315 Eh pl315 C C)<|Ds1 12<|Se1 C (Al (cs:=[_,_,_,_,_]) C C C) λb8=>?_
    exact Dr 13 C (A0 C)<|Dz<|Cg ((b8),(a5),(bj),(bp),(b2),(bz),(bt)) trivial
   refine Se2 C (Cj (α:=Int) (n:=n.nodes.toNat) Aa ef C C C om om dc C) λbo ay=>?_
   refine Ds1 5<|Se2 C (Cj (α:=Int) (n:=n.nodes.toNat) Aa ef C C C om om dc C) λa4 a6=>?_
   refine Dr 11 C (Br (cells:=[_,_,_,_,_]) ty315 Eh pl315 C C)<|Ds1 12<|Se1 C (Al (cs:=[_,_,_,_,_]) C C C) λbq=>?_
   exact Dr 13 C (A0 C)<|Dz<|Cg ((bq),(a5),(bj),(a4),(a6),(bo),(ay)) trivial
  ·refine Se2 C (Cj (α:=Int) (n:=n.nodes.toNat) Aa ef C C C om om dc C) λau ap=>?_
   refine C0 (rs:=[2,8]) kr C C<|D6 ?_<|Dv ?_
   ·refine Se2 C (Cj (α:=Row) (n:=n.nodes.toNat) Bp ty22 C C C om om dc C) λax bh=>?_
    refine Ds1 8<|Se2 C (Cj (α:=Int) (n:=n.nodes.toNat) Aa ef C C C om om dc C) λa3 a0=>?_
    refine Dr 11 C (Br (cells:=[_,_,_,_,_]) ty315 Eh pl315 C C)<|Ds1 12<|Se1 C (Al (cs:=[_,_,_,_,_]) C C C) λbr=>?_
    exact Dr 13 C (A0 C)<|Dz<|Cg ((br),(ax),(bh),(au),(ap),(a3),(a0)) trivial
   refine Se2 C (Cj (α:=Int) (n:=n.nodes.toNat) Aa ef C C C om om dc C) λbf bb=>?_
   refine Ds1 2<|Se2 C (Cj (α:=Row) (n:=n.nodes.toNat) Bp ty22 C C C om om dc C) λa8 bc=>?_
   refine Dr 11 C (Br (cells:=[_,_,_,_,_]) ty315 Eh pl315 C C)<|Ds1 12<|Se1 C (Al (cs:=[_,_,_,_,_]) C C C) λbn=>?_
   exact Dr 13 C (A0 C)<|Dz<|Cg ((bn),(a8),(bc),(au),(ap),(bf),(bb)) trivial
  refine Se2 C (Cj (α:=Int) (n:=n.nodes.toNat) Aa ef C C C om om dc C) λaq ar=>?_
  refine C0 (rs:=[2,5]) kr C C<|D6 ?_<|Dv ?_
  ·refine Se2 C (Cj (α:=Row) (n:=n.nodes.toNat) Bp ty22 C C C om om dc C) λaz a1=>?_
   refine Ds1 5<|Se2 C (Cj (α:=Int) (n:=n.nodes.toNat) Aa ef C C C om om dc C) λbg bi=>?_
   refine Dr 11 C (Br (cells:=[_,_,_,_,_]) ty315 Eh pl315 C C)<|Ds1 12<|Se1 C (Al (cs:=[_,_,_,_,_]) C C C) λbv=>?_
   exact Dr 13 C (A0 C)<|Dz<|Cg ((bv),(az),(a1),(bg),(bi),(aq),(ar)) trivial
  refine Se2 C (Cj (α:=Int) (n:=n.nodes.toNat) Aa ef C C C om om dc C) λaw av=>?_
  refine Ds1 2<|Se2 C (Cj (α:=Row) (n:=n.nodes.toNat) Bp ty22 C C C om om dc C) λbk be=>?_
  refine Dr 11 C (Br (cells:=[_,_,_,_,_]) ty315 Eh pl315 C C)<|Ds1 12<|Se1 C (Al (cs:=[_,_,_,_,_]) C C C) λbm=>?_
  exact Dr 13 C (A0 C)<|Dz<|Cg ((bm),(bk),(be),(aw),(av),(aq),(ar)) trivial
 rintro ⟨b,ao,co,al,cl,an,cn⟩ hp
 refine A5<|Ar<|Gf fld282_3 C<|Gl ty280 ?_
 refine Gr (Da (α:=Arc) (xs:=n.arcs) D3 C<|Au hl)<|Gm C<|As<|Bk<|Cn (σ:=Nat×(Option Addr)×Nat×(List Half)×(List Row)) (λs=>([(3,.pointer<|some ⟨b,0,none⟩),(20,v),(21,e7 ((n.arcs.length:Nat):Int)),(22,e7 ((s.1:Nat):Int))]:Env)) (λs=>vc 312 (.slice s.2.1 s.2.2.2.1.length s.2.2.1) (s.2.2.2.1)::e8 b [.slice s.2.1 s.2.2.2.1.length s.2.2.1,.slice ao (replicate n.nodes.toNat (default:Row)).length co,.slice al (replicate n.nodes.toNat (default:Int)).length cl,.slice an (replicate n.nodes.toNat (default:Int)).length cn,e7<|n.sink] 315::vc 22 (.slice ao (replicate n.nodes.toNat (default:Row)).length co) (s.2.2.2.2)::vc 3 (.slice al (replicate n.nodes.toNat (default:Int)).length cl) (replicate n.nodes.toNat (default:Int))::vc 3 (.slice an (replicate n.nodes.toNat (default:Int)).length cn) (replicate n.nodes.toNat (default:Int))::e8 b1 [e7 (n.nodes),e7<|n.source,e7<|n.sink,v] 282::(rowsI s.2.2.2.2++I)) (λs=>(s.1<=n.arcs.length)/\(OI n s.2.2.2.2 s.2.2.2.1 s.1)) (λs=>n.arcs.length - s.1) (0,none,0,[],(replicate n.nodes.toNat (default:Row))) ⟨om,(OI.start aj)⟩ (Ab C<|Ab C<|Ab C<|Ab Dg Bs) (Bw _ _) ?_
 rintro ⟨k,ah,ch,hs,rs⟩ hp
 dsimp only at hp ⊢
 obtain ⟨hk,hO⟩:=hp
 have hlen:=hO.len
 have ca:=hO.hlen
 refine Ar<|Gr (Ch C C)<|As<|A5<|Ap C (λbx=>?_)<|λbx=>?_
 ·refine Bt (Ay<|A5<|Bk<|Ar<|Gr (Az (α:=Arc) (xs:=n.arcs) D3 ty284 C C (Au hl) om om)<|Gr (Dt (α:=Arc) (xs:=n.arcs) ty284 C (Au hl) om om) ?_)
  have hb:=aj.arc (e_ n.arcs k) (Bx om om)
  have cd:=hO.bnd _ hb.1.1 hb.1.2
  have bw:=hO.bnd _ hb.2.1.1 hb.2.1.2
  refine Ge1 (Am ty284 C) λab=>Ge0 (Es3_3 ty284) ?_
  refine As<|A5<|A4 mixed<|Cm (e8 ab [e7 ((e_ n.arcs k).frm),e7<|(e_ n.arcs k).dst,e7<|(e_ n.arcs k).cap] 284::vc 312 (.slice ah hs.length ch) (hs)::e8 b [.slice ah hs.length ch,.slice ao (replicate n.nodes.toNat (default:Row)).length co,.slice al (replicate n.nodes.toNat (default:Int)).length cl,.slice an (replicate n.nodes.toNat (default:Int)).length cn,e7<|n.sink] 315::vc 22 (.slice ao (replicate n.nodes.toNat (default:Row)).length co) (rs)::vc 3 (.slice al (replicate n.nodes.toNat (default:Int)).length cl) (replicate n.nodes.toNat (default:Int))::vc 3 (.slice an (replicate n.nodes.toNat (default:Int)).length cn) (replicate n.nodes.toNat (default:Int))::e8 b1 [e7 (n.nodes),e7<|n.source,e7<|n.sink,v] 282::I) 22<|Dr 0 C (Af C)<|Dr 1 C (Bo C)<|Dr 2 C (Ad fld315_1 C)<|Dr 3 C (Ax ty218) ?_
  refine Dr 4 C (Ad fld284_0 C)<|Dr 5 C (Ax ef) ?_
  refine Dr 6 C (Af C)<|Dr 7 C (Bo C)<|Dr 8 C (Ad fld315_1 C)<|Dr 9 C (Ax ty218) ?_
  refine Dr 10 C (Ad fld284_0 C)<|Dr 11 C (Ax ef) ?_
  refine Dr 12 C (Az (α:=Row) (xs:=rs) Bp ty22 C C A7 om om)<|Dr 13 C (Dj (α:=Row) (xs:=rs) (u:= .slice (e_ rs<|(e_ n.arcs k).frm).a (e_ rs<|(e_ n.arcs k).frm).xs.length (e_ rs<|(e_ n.arcs k).frm).c) ty22 C A7 om om C)<|Dr 14 C (Af C)<|Dr 15 C (Bo C)<|Dr 16 C (Ad fld315_0 C)<|Dr 17 C (Ax ty313) ?_
  refine Dr 18 C (Ca Ck C)<|Ds1 19<|Se1 C (B9 (α:=Int) (cs:=[_]) (xs:=[((hs.length:Nat):Int)]) Aa ef C C dc dc C C C C) λai=>?_
  refine Ds1 20<|Se2 C (B4 (α:=Int) (e:=3) (xs:=(e_ rs<|(e_ n.arcs k).frm).xs) (ys:=([((hs.length:Nat):Int)]:List Int)) Aa ef C C C (by repeat (first|exact rowsI_mem (rs:=rs) (i:=((e_ n.arcs k).frm)) om om|apply List.mem_cons_of_mem)) A7 lcn dc C<|λ_ _=>(by repeat (first|exact At.rows (rs:=rs) (i:=((e_ n.arcs k).frm)) om om|apply At.tail))) λaa M=>?_
  show D Tryz.prog κ _ _ _ _ _ _ _ ([(46,.slice aa ((e_ rs<|(e_ n.arcs k).frm).xs++([((hs.length:Nat):Int)]:List Int)).length M),(45,.slice ai 1 1),(44,e7 ((hs.length:Nat):Int)),(43,.slice ah hs.length ch),(42,.pointer<|some ⟨b,0,none⟩),(41,.pointer<|some ⟨b,0,none⟩),(40,.pointer<|some ⟨b,0,none⟩),(39,.slice (e_ rs<|(e_ n.arcs k).frm).a (e_ rs<|(e_ n.arcs k).frm).xs.length (e_ rs<|(e_ n.arcs k).frm).c),(38,elemPtr (.slice ao (replicate n.nodes.toNat (default:Row)).length co)<|((e_ n.arcs k).frm).toNat*Enc.sz Row),(37,e7<|(e_ n.arcs k).frm),(36,.pointer<|some ⟨ab,0,none⟩),(35,.slice ao (replicate n.nodes.toNat (default:Row)).length co),(34,.pointer<|some ⟨b,1,none⟩),(33,.pointer<|some ⟨b,0,none⟩),(32,.pointer<|some ⟨b,0,none⟩),(31,e7<|(e_ n.arcs k).frm),(30,.pointer<|some ⟨ab,0,none⟩),(29,.slice ao (replicate n.nodes.toNat (default:Row)).length co),(28,.pointer<|some ⟨b,1,none⟩),(27,.pointer<|some ⟨b,0,none⟩),(26,.pointer<|some ⟨b,0,none⟩),(5,.pointer<|some ⟨ab,0,none⟩),(25,.agg #[e7 ((e_ n.arcs k).frm),e7<|(e_ n.arcs k).dst,e7<|(e_ n.arcs k).cap]),(24,elemPtr v<|((k:Int)).toNat*Enc.sz Arc),(23,.bool<|decide<|(k:Int)<((n.arcs.length:Nat):Int)),(3,.pointer<|some ⟨b,0,none⟩),(20,v),(21,e7 ((n.arcs.length:Nat):Int)),(22,e7<|(k:Int))]:Env) (vc 3 (.slice ai 1 1) (([((hs.length:Nat):Int)]:List Int))::e8 ab [e7 ((e_ n.arcs k).frm),e7<|(e_ n.arcs k).dst,e7<|(e_ n.arcs k).cap] 284::vc 312 (.slice ah hs.length ch) (hs)::e8 b [.slice ah hs.length ch,.slice ao (replicate n.nodes.toNat (default:Row)).length co,.slice al (replicate n.nodes.toNat (default:Int)).length cl,.slice an (replicate n.nodes.toNat (default:Int)).length cn,e7<|n.sink] 315::vc 22 (.slice ao (replicate n.nodes.toNat (default:Row)).length co) (rs)::vc 3 (.slice al (replicate n.nodes.toNat (default:Int)).length cl) (replicate n.nodes.toNat (default:Int))::vc 3 (.slice an (replicate n.nodes.toNat (default:Int)).length cn) (replicate n.nodes.toNat (default:Int))::e8 b1 [e7 (n.nodes),e7<|n.source,e7<|n.sink,v] 282::(rowsI (List.set rs ((e_ n.arcs k).frm).toNat (⟨aa,M,((e_ rs<|(e_ n.arcs k).frm).xs++([((hs.length:Nat):Int)]:List Int))⟩:Row))++I))
  refine Dr 21 C (Az (α:=Row) (xs:=rs) Bp ty22 C C A7 om om)<|C3 kr ?_
  refine Ae 22 C (Ci (α:=Row) (xs:=rs) (e:=22) (new:=(⟨aa,M,((e_ rs<|(e_ n.arcs k).frm).xs++([((hs.length:Nat):Int)]:List Int))⟩:Row)) ty22 C C C om om am) ?_
  rintro _ _ ⟨rfl,rfl⟩
  have cb:(List.set rs ((e_ n.arcs k).frm).toNat (⟨aa,M,((e_ rs<|(e_ n.arcs k).frm).xs++([((hs.length:Nat):Int)]:List Int))⟩:Row)).length=rs.length:=List.length_set
  have bu:e_ (List.set rs ((e_ n.arcs k).frm).toNat (⟨aa,M,((e_ rs<|(e_ n.arcs k).frm).xs++([((hs.length:Nat):Int)]:List Int))⟩:Row)) (e_ n.arcs k).dst=e_ rs (e_ n.arcs k).dst:=by rw [C2 rs _ _ _ hb.1.1 hb.2.1.1 om,if_neg hb.2.2.1]
  have cc:(e_ (List.set rs ((e_ n.arcs k).frm).toNat (⟨aa,M,((e_ rs<|(e_ n.arcs k).frm).xs++([((hs.length:Nat):Int)]:List Int))⟩:Row)) (e_ n.arcs k).dst).xs.length<=2*k:=by rw [bu];exact bw
  refine C4 kr ?_
  refine Ay<|Bg (S5 5 3 20 21 22 C C C C C)<|A5<|A4 mixed<|Cm (vc 3 (.slice ai 1 1) (([((hs.length:Nat):Int)]:List Int))::e8 ab [e7 ((e_ n.arcs k).frm),e7<|(e_ n.arcs k).dst,e7<|(e_ n.arcs k).cap] 284::vc 312 (.slice ah hs.length ch) (hs)::e8 b [.slice ah hs.length ch,.slice ao (replicate n.nodes.toNat (default:Row)).length co,.slice al (replicate n.nodes.toNat (default:Int)).length cl,.slice an (replicate n.nodes.toNat (default:Int)).length cn,e7<|n.sink] 315::vc 22 (.slice ao (replicate n.nodes.toNat (default:Row)).length co) (List.set rs ((e_ n.arcs k).frm).toNat (⟨aa,M,((e_ rs<|(e_ n.arcs k).frm).xs++([((hs.length:Nat):Int)]:List Int))⟩:Row))::vc 3 (.slice al (replicate n.nodes.toNat (default:Int)).length cl) (replicate n.nodes.toNat (default:Int))::vc 3 (.slice an (replicate n.nodes.toNat (default:Int)).length cn) (replicate n.nodes.toNat (default:Int))::e8 b1 [e7 (n.nodes),e7<|n.source,e7<|n.sink,v] 282::I) 23<|Dr 0 C (Af C)<|Dr 1 C (Bo C)<|Dr 2 C (Ad fld315_1 C)<|Dr 3 C (Ax ty218) ?_
  refine Dr 4 C (Ad fld284_1 C)<|Dr 5 C (Ax ef) ?_
  refine Dr 6 C (Af C)<|Dr 7 C (Bo C)<|Dr 8 C (Ad fld315_1 C)<|Dr 9 C (Ax ty218) ?_
  refine Dr 10 C (Ad fld284_1 C)<|Dr 11 C (Ax ef) ?_
  refine Dr 12 C (Az (α:=Row) (xs:=List.set rs ((e_ n.arcs k).frm).toNat (⟨aa,M,((e_ rs<|(e_ n.arcs k).frm).xs++([((hs.length:Nat):Int)]:List Int))⟩:Row)) Bp ty22 C C A7 om om)<|Dr 13 C (Dj (α:=Row) (xs:=List.set rs ((e_ n.arcs k).frm).toNat (⟨aa,M,((e_ rs<|(e_ n.arcs k).frm).xs++([((hs.length:Nat):Int)]:List Int))⟩:Row)) (u:= .slice (e_ (List.set rs ((e_ n.arcs k).frm).toNat (⟨aa,M,((e_ rs<|(e_ n.arcs k).frm).xs++([((hs.length:Nat):Int)]:List Int))⟩:Row))<|(e_ n.arcs k).dst).a (e_ (List.set rs ((e_ n.arcs k).frm).toNat (⟨aa,M,((e_ rs<|(e_ n.arcs k).frm).xs++([((hs.length:Nat):Int)]:List Int))⟩:Row))<|(e_ n.arcs k).dst).xs.length (e_ (List.set rs ((e_ n.arcs k).frm).toNat (⟨aa,M,((e_ rs<|(e_ n.arcs k).frm).xs++([((hs.length:Nat):Int)]:List Int))⟩:Row))<|(e_ n.arcs k).dst).c) ty22 C A7 om om C)<|Dr 14 C (Af C)<|Dr 15 C (Bo C)<|Dr 16 C (Ad fld315_0 C)<|Dr 17 C (Ax ty313) ?_
  refine Dr 18 C (Ca Ck C)<|Dr 19 C (Rad C C)<|Ds1 20<|Se1 C (B9 (α:=Int) (cs:=[_]) (xs:=[((hs.length:Nat):Int)+1]) Aa ef C C dc dc C C C C) λak=>?_
  refine Ds1 21<|Se2 C (B4 (α:=Int) (e:=3) (xs:=(e_ (List.set rs ((e_ n.arcs k).frm).toNat (⟨aa,M,((e_ rs<|(e_ n.arcs k).frm).xs++([((hs.length:Nat):Int)]:List Int))⟩:Row))<|(e_ n.arcs k).dst).xs) (ys:=([((hs.length:Nat):Int)+1]:List Int)) Aa ef C C C (by repeat (first|exact rowsI_mem (rs:=(List.set rs ((e_ n.arcs k).frm).toNat (⟨aa,M,((e_ rs<|(e_ n.arcs k).frm).xs++([((hs.length:Nat):Int)]:List Int))⟩:Row))) (i:=((e_ n.arcs k).dst)) om om|apply List.mem_cons_of_mem)) A7 lcn dc C<|λ_ _=>(by repeat (first|exact At.rows (rs:=(List.set rs ((e_ n.arcs k).frm).toNat (⟨aa,M,((e_ rs<|(e_ n.arcs k).frm).xs++([((hs.length:Nat):Int)]:List Int))⟩:Row))) (i:=((e_ n.arcs k).dst)) om om|apply At.tail))) λae ad=>?_
  show D Tryz.prog κ _ _ _ _ _ _ _ ([(69,.slice ae ((e_ (List.set rs ((e_ n.arcs k).frm).toNat (⟨aa,M,((e_ rs<|(e_ n.arcs k).frm).xs++([((hs.length:Nat):Int)]:List Int))⟩:Row))<|(e_ n.arcs k).dst).xs++([((hs.length:Nat):Int)+1]:List Int)).length ad),(68,.slice ak 1 1),(67,e7<|((hs.length:Nat):Int)+1),(66,e7 ((hs.length:Nat):Int)),(65,.slice ah hs.length ch),(64,.pointer<|some ⟨b,0,none⟩),(63,.pointer<|some ⟨b,0,none⟩),(62,.pointer<|some ⟨b,0,none⟩),(61,.slice (e_ (List.set rs ((e_ n.arcs k).frm).toNat (⟨aa,M,((e_ rs<|(e_ n.arcs k).frm).xs++([((hs.length:Nat):Int)]:List Int))⟩:Row))<|(e_ n.arcs k).dst).a (e_ (List.set rs ((e_ n.arcs k).frm).toNat (⟨aa,M,((e_ rs<|(e_ n.arcs k).frm).xs++([((hs.length:Nat):Int)]:List Int))⟩:Row))<|(e_ n.arcs k).dst).xs.length (e_ (List.set rs ((e_ n.arcs k).frm).toNat (⟨aa,M,((e_ rs<|(e_ n.arcs k).frm).xs++([((hs.length:Nat):Int)]:List Int))⟩:Row))<|(e_ n.arcs k).dst).c),(60,elemPtr (.slice ao (replicate n.nodes.toNat (default:Row)).length co)<|((e_ n.arcs k).dst).toNat*Enc.sz Row),(59,e7<|(e_ n.arcs k).dst),(58,.pointer<|some ⟨ab,1,none⟩),(57,.slice ao (replicate n.nodes.toNat (default:Row)).length co),(56,.pointer<|some ⟨b,1,none⟩),(55,.pointer<|some ⟨b,0,none⟩),(54,.pointer<|some ⟨b,0,none⟩),(53,e7<|(e_ n.arcs k).dst),(52,.pointer<|some ⟨ab,1,none⟩),(51,.slice ao (replicate n.nodes.toNat (default:Row)).length co),(50,.pointer<|some ⟨b,1,none⟩),(49,.pointer<|some ⟨b,0,none⟩),(48,.pointer<|some ⟨b,0,none⟩),(5,.pointer<|some ⟨ab,0,none⟩),(3,.pointer<|some ⟨b,0,none⟩),(20,v),(21,e7 ((n.arcs.length:Nat):Int)),(22,e7<|(k:Int))]:Env) (vc 3 (.slice ak 1 1) (([((hs.length:Nat):Int)+1]:List Int))::vc 3 (.slice ai 1 1) (([((hs.length:Nat):Int)]:List Int))::e8 ab [e7 ((e_ n.arcs k).frm),e7<|(e_ n.arcs k).dst,e7<|(e_ n.arcs k).cap] 284::vc 312 (.slice ah hs.length ch) (hs)::e8 b [.slice ah hs.length ch,.slice ao (replicate n.nodes.toNat (default:Row)).length co,.slice al (replicate n.nodes.toNat (default:Int)).length cl,.slice an (replicate n.nodes.toNat (default:Int)).length cn,e7<|n.sink] 315::vc 22 (.slice ao (replicate n.nodes.toNat (default:Row)).length co) (List.set rs ((e_ n.arcs k).frm).toNat (⟨aa,M,((e_ rs<|(e_ n.arcs k).frm).xs++([((hs.length:Nat):Int)]:List Int))⟩:Row))::vc 3 (.slice al (replicate n.nodes.toNat (default:Int)).length cl) (replicate n.nodes.toNat (default:Int))::vc 3 (.slice an (replicate n.nodes.toNat (default:Int)).length cn) (replicate n.nodes.toNat (default:Int))::e8 b1 [e7 (n.nodes),e7<|n.source,e7<|n.sink,v] 282::(rowsI (List.set (List.set rs ((e_ n.arcs k).frm).toNat (⟨aa,M,((e_ rs<|(e_ n.arcs k).frm).xs++([((hs.length:Nat):Int)]:List Int))⟩:Row)) ((e_ n.arcs k).dst).toNat (⟨ae,ad,((e_ (List.set rs ((e_ n.arcs k).frm).toNat (⟨aa,M,((e_ rs<|(e_ n.arcs k).frm).xs++([((hs.length:Nat):Int)]:List Int))⟩:Row))<|(e_ n.arcs k).dst).xs++([((hs.length:Nat):Int)+1]:List Int))⟩:Row))++I))
  refine Dr 22 C (Az (α:=Row) (xs:=List.set rs ((e_ n.arcs k).frm).toNat (⟨aa,M,((e_ rs<|(e_ n.arcs k).frm).xs++([((hs.length:Nat):Int)]:List Int))⟩:Row)) Bp ty22 C C A7 om om)<|C3 kr ?_
  refine Ae 23 C (Ci (α:=Row) (xs:=List.set rs ((e_ n.arcs k).frm).toNat (⟨aa,M,((e_ rs<|(e_ n.arcs k).frm).xs++([((hs.length:Nat):Int)]:List Int))⟩:Row)) (e:=22) (new:=(⟨ae,ad,((e_ (List.set rs ((e_ n.arcs k).frm).toNat (⟨aa,M,((e_ rs<|(e_ n.arcs k).frm).xs++([((hs.length:Nat):Int)]:List Int))⟩:Row))<|(e_ n.arcs k).dst).xs++([((hs.length:Nat):Int)+1]:List Int))⟩:Row)) ty22 C C C om om am) ?_
  rintro _ _ ⟨rfl,rfl⟩
  refine C4 kr ?_
  refine Ay<|Bg (S5 5 3 20 21 22 C C C C C)<|A4 mixed<|Cm (vc 3 (.slice ak 1 1) (([((hs.length:Nat):Int)+1]:List Int))::vc 3 (.slice ai 1 1) (([((hs.length:Nat):Int)]:List Int))::e8 ab [e7 ((e_ n.arcs k).frm),e7<|(e_ n.arcs k).dst,e7<|(e_ n.arcs k).cap] 284::e8 b [.slice ah hs.length ch,.slice ao (replicate n.nodes.toNat (default:Row)).length co,.slice al (replicate n.nodes.toNat (default:Int)).length cl,.slice an (replicate n.nodes.toNat (default:Int)).length cn,e7<|n.sink] 315::vc 22 (.slice ao (replicate n.nodes.toNat (default:Row)).length co) (List.set (List.set rs ((e_ n.arcs k).frm).toNat (⟨aa,M,((e_ rs<|(e_ n.arcs k).frm).xs++([((hs.length:Nat):Int)]:List Int))⟩:Row)) ((e_ n.arcs k).dst).toNat (⟨ae,ad,((e_ (List.set rs ((e_ n.arcs k).frm).toNat (⟨aa,M,((e_ rs<|(e_ n.arcs k).frm).xs++([((hs.length:Nat):Int)]:List Int))⟩:Row))<|(e_ n.arcs k).dst).xs++([((hs.length:Nat):Int)+1]:List Int))⟩:Row))::vc 3 (.slice al (replicate n.nodes.toNat (default:Int)).length cl) (replicate n.nodes.toNat (default:Int))::vc 3 (.slice an (replicate n.nodes.toNat (default:Int)).length cn) (replicate n.nodes.toNat (default:Int))::e8 b1 [e7 (n.nodes),e7<|n.source,e7<|n.sink,v] 282::(rowsI (List.set (List.set rs ((e_ n.arcs k).frm).toNat (⟨aa,M,((e_ rs<|(e_ n.arcs k).frm).xs++([((hs.length:Nat):Int)]:List Int))⟩:Row)) ((e_ n.arcs k).dst).toNat (⟨ae,ad,((e_ (List.set rs ((e_ n.arcs k).frm).toNat (⟨aa,M,((e_ rs<|(e_ n.arcs k).frm).xs++([((hs.length:Nat):Int)]:List Int))⟩:Row))<|(e_ n.arcs k).dst).xs++([((hs.length:Nat):Int)+1]:List Int))⟩:Row))++I)) 19<|Dr 0 C (Af C)<|Dr 1 C (Af C)<|Dr 2 C (Bo C)<|Dr 3 C (Ad fld315_0 C)<|Dr 4 C (Ax ty313) ?_
  refine Dr 5 C (Bl (vs:=[_,_,_]) ty284) ?_
  refine Dr 6 C (Ad fld284_2 C)<|Dr 7 C (Ax ef) ?_
  refine Dr 8 C (Br (cells:=[_,_,_,_]) ty312 Tryz.underlying312 pl312 C C)<|Dr 9 C (Ad fld284_1 C)<|Dr 10 C (Ax ef) ?_
  refine Dr 11 C (Ad fld284_0 C)<|Dr 12 C (Ax ef) ?_
  refine Dr 13 C (Br (cells:=[_,_,_]) ty284 Tryz.underlying284 pl284 C C)<|Dr 14 C (Br (cells:=[_,_,_,_]) ty312 Tryz.underlying312 pl312 C C)<|Ds1 15<|Se1 C (B9 (α:=Half) (cs:=[e7 ((e_ n.arcs k).frm),e7<|(e_ n.arcs k).dst,e7<|(e_ n.arcs k).cap,e7<|(e_ n.arcs k).cap,e7<|(e_ n.arcs k).dst,e7<|(e_ n.arcs k).frm,e7 0,e7 0]) (xs:=[⟨(e_ n.arcs k).frm,(e_ n.arcs k).dst,(e_ n.arcs k).cap,(e_ n.arcs k).cap⟩,⟨(e_ n.arcs k).dst,(e_ n.arcs k).frm,0,0⟩]) Ck ty312 C C dc dc C kr C C) λb4=>?_
  refine Ds1 16<|Se2 C (B4 (α:=Half) (e:=312) (xs:=hs) (ys:=([⟨(e_ n.arcs k).frm,(e_ n.arcs k).dst,(e_ n.arcs k).cap,(e_ n.arcs k).cap⟩,⟨(e_ n.arcs k).dst,(e_ n.arcs k).frm,0,0⟩]:List Half)) Ck ty312 C C C mm A7 lcn dc C<|λ_ _=>am) λa7 ba=>?_
  refine Ds1 17<|Sr C (Bo C) Aj ?_
  refine Dr 18 C (Ad fld315_0 C)<|C3 kr ?_
  refine Ae 19 C (A3 (cs:=[_,_,_,_,_]) (vs:=[_]) (cs':=[_,_,_,_,_]) ty313) ?_
  rintro _ _ ⟨rfl,rfl⟩
  refine C4 kr ?_
  exact Av<|Ay<|Bg (S4 3 20 21 22 C C C C)<|Be<|Gr (Rad C C)<|Gm C<|Bi<|B5 ((k+1),(a7),(ba),(hs++([⟨(e_ n.arcs k).frm,(e_ n.arcs k).dst,(e_ n.arcs k).cap,(e_ n.arcs k).cap⟩,⟨(e_ n.arcs k).dst,(e_ n.arcs k).frm,0,0⟩]:List Half)),(List.set (List.set rs ((e_ n.arcs k).frm).toNat (⟨aa,M,((e_ rs<|(e_ n.arcs k).frm).xs++([((hs.length:Nat):Int)]:List Int))⟩:Row)) ((e_ n.arcs k).dst).toNat (⟨ae,ad,((e_ (List.set rs ((e_ n.arcs k).frm).toNat (⟨aa,M,((e_ rs<|(e_ n.arcs k).frm).xs++([((hs.length:Nat):Int)]:List Int))⟩:Row))<|(e_ n.arcs k).dst).xs++([((hs.length:Nat):Int)+1]:List Int))⟩:Row)))<|by dsimp only;exact ⟨om,(hO.step aj om _ _ _ _ om om C C)⟩
 refine C7<|A9<|A9<|B3<|Ay<|Ar<|Gm C<|Ga C<|As<|Bf ?_
 have a9:=hO.done aj om
 exact Ai C C (e8 b [.slice ah hs.length ch,.slice ao (replicate n.nodes.toNat (default:Row)).length co,.slice al (replicate n.nodes.toNat (default:Int)).length cl,.slice an (replicate n.nodes.toNat (default:Int)).length cn,e7<|n.sink] 315::vc 312 (.slice ah hs.length ch) (hs)::vc 3 (.slice al (replicate n.nodes.toNat (default:Int)).length cl) (replicate n.nodes.toNat (default:Int))::vc 3 (.slice an (replicate n.nodes.toNat (default:Int)).length cn) (replicate n.nodes.toNat (default:Int))::vc 22 (.slice ao (replicate n.nodes.toNat (default:Row)).length co) (rs)::(rowsI rs++I)) Bb ⟨_,_,_,_,_,hs,rs,(replicate n.nodes.toNat (default:Int)),(replicate n.nodes.toNat (default:Int)),rfl,⟨a9.1,a9.2,by rw [List.length_replicate];omega,by rw [List.length_replicate];omega⟩,rfl⟩




end Go.Sl
namespace Go.Sl
open Go.Proofs
set_option maxRecDepth 4000
attribute [local irreducible] W G V D A Runs Eff
theorem Solved_ok{κ:Ctx}{I:List Item}{n:Net}{v:Value}(hl:Sl κ I v n.arcs)(M:n.Ok):eu Tryz.prog κ 283 [.agg #[e7 (n.nodes),e7 (n.source),e7 (n.sink),v]] I (λr J=>∃(b:Nat) (hw ow lw nw:Value) (f:List Int) (hs:List Half) (rs:List Row) (L nx:List Int) (val:Int),r = .tuple #[.pointer (some ⟨b,0,none⟩),e7 val]/\(Full n f val/\HOk n f hs/\ROk n (rowsL rs))/\J=e8 b [hw,ow,lw,nw,e7 (n.sink)] 315::vc 312 hw (hs)::vc 3 lw (L)::vc 3 nw (nx)::(vc 22 ow rs::(rowsI rs++I))):=by
 refine Ce1 Tryz.func283 C C ?_
 refine Ar<|Ge1 (Al (cs:=[_,_,_,_]) C C C) λb1=>Z ?_
 refine G.e (Ac c_ C C<|Open_ok (n:=n) (Au hl) M) ?_
 rintro _ _ ⟨_,_,⟨b,hw,ow,lw,nw,hs,rs,L,nx,rfl,⟨hh,hr,hL,hN⟩,rfl⟩,rfl,rfl⟩
 refine G.fit (J:=e8 b [hw,ow,lw,nw,e7<|n.sink] 315::vc 312 hw (hs)::vc 3 lw (L)::vc 3 nw (nx)::vc 22 ow (rs)::e8 b1 [e7 (n.nodes),e7<|n.source,e7<|n.sink,v] 282::(rowsI rs++I)) Bb<|Z ?_
 refine G.e (Ac c_ C C<|Greatest_ok (n:=n) M hh hr A7 (λi h0 h=>Bm (rowsI_sl i h0 h) Ah) hL hN (flow_zero n M).1 (flow_zero n M).2) ?_
 rintro _ _ ⟨_,_,⟨val,f,ab,L2,ad,rfl,⟨aa,ae⟩,rfl⟩,rfl,rfl⟩
 refine Z ?_
 exact Cy C C C (e8 b [hw,ow,lw,nw,e7<|n.sink] 315::vc 312 hw (ab)::vc 3 lw (L2)::vc 3 nw (ad)::vc 22 ow (rs)::(rowsI rs++I)) Bb ⟨b,hw,ow,lw,nw,f,ab,rs,L2,ad,val,rfl,⟨aa,ae,hr⟩,rfl⟩
end Go.Sl
namespace Go.Sl
variable{M a b c d0 d1 m1 m2 m3 n n4 n5 n6 u:Nat}
def valN:List Nat->Nat
 |[]=>0
 |b::bs=>2 ^ 8*valN bs+b
theorem and_dig{d:Nat}(hb:b<2 ^ 8)(M:d<2 ^ 8):(2 ^ 8*a+b) &&& (2 ^ 8*c+d)=2 ^ 8*(a &&& c)+(b &&& d):=by
 refine Nat.eq_of_testBit_eq λj=>?_
 rw [Nat.testBit_and,Nat.testBit_two_pow_mul_add _ hb,Nat.testBit_two_pow_mul_add _ M,Nat.testBit_two_pow_mul_add _<|Nat.and_lt_two_pow _ M]
 by_cases h:j<8
 ·rw [if_pos h,if_pos h,if_pos h,Nat.testBit_and]
 rw [if_neg h,if_neg h,if_neg h,Nat.testBit_and]
def repN(c:Nat)(k:Nat):Nat:=valN (replicate k c)
theorem repN_succ(c k:Nat):repN c (k+1)=2 ^ 8*repN c k+c:=rfl
def p1(b:Nat):Nat:=((b / 2) &&& 85)+(b &&& 85)
def p2(b:Nat):Nat:=((b / 4) &&& 51)+(b &&& 51)
def p3(b:Nat):Nat:=(b / 16+b) % 16
theorem c1:∀t:Fin 2,∀x:Fin 128,(128*t.val+x.val) &&& 85=x.val &&& 85:=by decide+kernel
theorem c2:∀t:Fin 4,∀x:Fin 64,(64*t.val+x.val) &&& 51=x.val &&& 51:=by decide+kernel
theorem b1:∀b:Fin 256,p1 b.val<256/\p2 (p1 b.val) % 16<=4/\p2 (p1 b.val) / 16<=4/\p3 (p2 (p1 b.val))<=8/\p3 (p2 (p1 b.val))=((List.range 8).filter λj=>b.val.testBit j).length:=by decide+kernel
theorem step1:∀bs:List Nat,(∀b∈bs,b<256)->((valN bs / 2) &&& repN 85 bs.length)+(valN bs &&& repN 85 bs.length)=valN (bs.map p1)
 |[],_=>rfl
 |b::bs,h=>by
  have hb:=h b List.mem_cons_self
  have ih:=step1 bs λx hx=>h x (List.mem_cons_of_mem _ hx)
  rw [List.length_cons,repN_succ,List.map_cons]
  simp only [valN]
  have e:(2 ^ 8*valN bs+b) / 2=2 ^ 8*(valN bs / 2)+(128*(valN bs % 2)+b / 2):=by omega
  have M:=c1 ⟨valN bs % 2,by omega⟩ ⟨b / 2,by omega⟩
  simp only at M
  rw [e,and_dig (by omega)<|by decide,and_dig (by omega)<|by decide,M]
  rw [show p1 b=(b / 2 &&& 85)+(b &&& 85) from rfl]
  omega
theorem step2:∀bs:List Nat,(∀b∈bs,b<256)->((valN bs / 4) &&& repN 51 bs.length)+(valN bs &&& repN 51 bs.length)=valN (bs.map p2)
 |[],_=>rfl
 |b::bs,h=>by
  have hb:=h b List.mem_cons_self
  have ih:=step2 bs λx hx=>h x (List.mem_cons_of_mem _ hx)
  rw [List.length_cons,repN_succ,List.map_cons]
  simp only [valN]
  have e:(2 ^ 8*valN bs+b) / 4=2 ^ 8*(valN bs / 4)+(64*(valN bs % 4)+b / 4):=by omega
  have M:=c2 ⟨valN bs % 4,by omega⟩ ⟨b / 4,by omega⟩
  simp only at M
  rw [e,and_dig (by omega)<|by decide,and_dig (by omega)<|by decide,M]
  rw [show p2 b=(b / 4 &&& 51)+(b &&& 51) from rfl]
  omega
theorem step3:∀bs:List Nat,(∀b∈bs,b % 16<=4/\b / 16<=4)->(valN bs / 16+valN bs) &&& repN 15 bs.length=valN (bs.map p3)
 |[],_=>rfl
 |b::bs,h=>by
  have hb:=h b List.mem_cons_self
  have M:=step3 bs λx hx=>h x (List.mem_cons_of_mem _ hx)
  have hn:valN bs % 16<=4:=by
   cases bs with
   |nil=>simp [valN]
   |cons c cs=>
    have:=(h c<|List.mem_cons_of_mem _ List.mem_cons_self).1
    simp only [valN];omega
  rw [List.length_cons,repN_succ,List.map_cons]
  simp only [valN]
  have e:(2 ^ 8*valN bs+b) / 16+(2 ^ 8*valN bs+b)=2 ^ 8*(valN bs / 16+valN bs)+(16*(valN bs % 16)+b / 16+b):=by omega
  rw [e,and_dig (by omega)<|by decide,M,show (15:Nat)=2 ^ 4 - 1 by decide,Nat.and_two_pow_sub_one_eq_mod]
  rw [show p3 b=(b / 16+b) % 16 from rfl]
  omega
def bytesN(n:Nat):Nat->List Nat
 |0=>[]
 |k+1=>n % 256::bytesN (n / 256) k
theorem bytesN_len(n k:Nat):(bytesN n k).length=k:=by
 induction k generalizing n with
 |zero=>rfl
 |succ k ih=>simp [bytesN,ih]
theorem bytesN_lt(n k:Nat):∀b∈bytesN n k,b<256:=by
 induction k generalizing n with
 |zero=>intro b hb;cases hb
 |succ k ih=>
  intro b hb
  rcases List.mem_cons.1 hb with rfl|hb
  ·omega
  exact ih _ b hb
theorem bytesN_val:∀(k n:Nat),n<256 ^ k->valN (bytesN n k)=n
 |0,n,h=>by simp at h;subst h;rfl
 |k+1,n,h=>by
  rw [Nat.pow_succ] at h
  simp only [bytesN,valN]
  rw [bytesN_val k (n / 256) (by omega)]
  omega
def sumN':List Nat->Nat
 |[]=>0
 |b::bs=>b+sumN' bs
theorem cnt_val:∀bs:List Nat,(∀b∈bs,b<256)->((List.range (8*bs.length)).filter λj=>(valN bs).testBit j).length=sumN' (bs.map λb=>p3 (p2 (p1 b)))
 |[],_=>rfl
 |b::bs,h=>by
  have M:=h b List.mem_cons_self
  have ih:=cnt_val bs λx hx=>h x (List.mem_cons_of_mem _ hx)
  rw [List.length_cons,show 8*(bs.length+1)=8+8*bs.length by omega,List.range_add,List.filter_append,List.length_append,List.map_cons]
  simp only [sumN',valN]
  rw [←ih,(b1 ⟨b,M⟩).2.2.2.2,List.filter_map,List.length_map]
  congr 2
  ·refine List.filter_congr λj hj=>?_
   rw [Nat.testBit_two_pow_mul_add _ M,if_pos<|List.mem_range.1 hj]
  refine List.filter_congr λj hj=>?_
  show (2 ^ 8*valN bs+b).testBit (8+j)=_
  rw [Nat.testBit_two_pow_mul_add _ M,if_neg<|by omega,Nat.add_sub_cancel_left]
theorem fold4(h0:d0<=8)(h1:d1<=8)(h2:M<=8)(en:n=d0+256*d1+65536*m2)(e1:m1=d1+256*M+65536*m3)(h4:n4=n+m1) :
  n4=(d0+d1)+256*(d1+M)+65536*(m2+m3)/\n4 / 65536=m2+m3:=by omega
theorem fold5(ha:a<=16)(hb:b<=16)(hc:c<65536)(h4:n4=a+256*b+65536*(c+65536*u))(M:n5=n4+(c+65536*u)):n5=a+256*b+c+65536*(c+u)+4294967296*u:=by omega
theorem fold6{x s t:Nat}(hx:x<65536)(hc:c<=5000)(hs:s<=5000)(hu:u=s+65536*t)(M:n5=x+65536*(c+u)+4294967296*u):n5 / 4294967296=u+t:=by omega
theorem fold_sum{d2 d4 d5 d6 d7 m4 m5 m6:Nat}(h0:d0<=8)(h1:d1<=8)(h2:d2<=8)(h3:M<=8)(h4:d4<=8)(h5:d5<=8)(h6:d6<=8)(h7:d7<=8)
  (e6:m6=d6+256*d7) (e5:m5=d5+256*d6+65536*d7) (e4:m4=d4+256*d5+65536*m6) (e3:m3=M+256*d4+65536*m5) (e2:m2=d2+256*M+65536*m4) (e1:m1=d1+256*d2+65536*m3) (e0:n=d0+256*d1+65536*m2)
  (g4:n4=n+m1) (g5:n5=n4+n4 / 65536) (g6:n6=n5+n5 / 4294967296):n6 % 128=d0+d1+d2+M+d4+d5+d6+d7:=by
 obtain ⟨a1,a2⟩:=fold4 h0 h1 h2 e0 e1 g4
 have hc:m2+m3=((d2+M)+256*(M+d4))+65536*(m4+m5):=by clear e0 e1 e4 e5 e6 g4 g5 g6 a1 a2;omega
 have hu:m4+m5=((d4+d5)+256*(d5+d6))+65536*(m6+d7):=by clear e0 e1 e2 e3 e6 g4 g5 g6 a1 a2 hc;omega
 rw [a2,hc] at g5
 rw [hc] at a1
 have b1:=fold5 (by omega) (by omega) (by omega) a1 g5
 have b2:=fold6 (x:=d0+d1+256*(d1+d2)+((d2+M)+256*(M+d4))) (by omega) (by omega) (by omega) hu b1
 rw [b2] at g6
 clear b2 a2 hc e0 e1 e2 e3 e4 e5 g4 g5 a1
 omega
theorem fold_all{bs:List Nat}(hl:bs.length=8)(hb:∀b∈bs,b<=8)(hn:n=valN bs)(M:n4=n+n / 256)(g5:n5=n4+n4 / 65536)(g6:n6=n5+n5 / 4294967296):n6 % 128=sumN' bs/\n6<18446744073709551616:=by
 match bs,hl with
 |[d0,d1,d2,d3,d4,d5,d6,d7],_=>
  have k0:=hb d0 (by simp)
  have k1:=hb d1 (by simp)
  have k2:=hb d2 (by simp)
  have k3:=hb d3 (by simp)
  have k4:=hb d4 (by simp)
  have k5:=hb d5 (by simp)
  have k6:=hb d6 (by simp)
  have k7:=hb d7 (by simp)
  obtain ⟨m6,e6⟩:∃m6,m6=d6+256*d7:=⟨_,rfl⟩
  obtain ⟨m5,e5⟩:∃m5,m5=d5+256*d6+65536*d7:=⟨_,rfl⟩
  obtain ⟨m4,e4⟩:∃m4,m4=d4+256*d5+65536*m6:=⟨_,rfl⟩
  obtain ⟨m3,e3⟩:∃m3,m3=d3+256*d4+65536*m5:=⟨_,rfl⟩
  obtain ⟨m2,e2⟩:∃m2,m2=d2+256*d3+65536*m4:=⟨_,rfl⟩
  obtain ⟨m1,e1⟩:∃m1,m1=d1+256*d2+65536*m3:=⟨_,rfl⟩
  have e0:n=d0+256*d1+65536*m2:=by rw [hn];simp only [valN];omega
  have ed:n / 256=m1:=by
   have:n=d0+256*m1:=by clear M g5 g6;rw [hn];simp only [valN];omega
   clear e0 e1 e2 e3 e4 e5 e6 M g5 g6 hn
   omega
  rw [ed] at M
  refine ⟨?_,?_⟩
  ·rw [fold_sum k0 k1 k2 k3 k4 k5 k6 k7 e6 e5 e4 e3 e2 e1 e0 M g5 g6];simp only [sumN'];omega
  have q6:m6<=2056:=by omega
  have q5:m5<=526344:=by omega
  have q4:m4<=134744072:=by clear M g5 g6 hn e0 e1 e2 e3 ed;omega
  have q3:m3<=34494482440:=by clear M g5 g6 hn e0 e1 e2 e4 ed;omega
  have q2:m2<=8830587504648:=by clear M g5 g6 hn e0 e1 e3 e4 e5 e6 ed;omega
  have q1:m1<=2260630401189896:=by clear M g5 g6 hn e0 e2 e4 e5 e6 ed;omega
  have q0:n<=578721382704613384:=by clear M g5 g6 hn e1 e3 e4 e5 e6 ed;omega
  clear e0 e1 e2 e3 e4 e5 e6 hn ed
  omega
theorem valN_le:∀bs:List Nat,(∀b∈bs,b<=c)->valN bs<=repN c bs.length
 |[],_=>Nat.le_refl _
 |b::bs,h=>by
  have ih:=valN_le bs λx M=>h x (List.mem_cons_of_mem _ M)
  have hb:=h b List.mem_cons_self
  rw [List.length_cons,repN_succ]
  simp only [valN]
  omega
end Go.Sl
