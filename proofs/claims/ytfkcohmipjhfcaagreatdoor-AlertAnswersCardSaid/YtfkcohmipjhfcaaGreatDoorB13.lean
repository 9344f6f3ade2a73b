/- A part of the proofs of statements of this seat: contracts of functions, and the plain laws that they lean on. No conditions. -/
import Derived.Test.YtfkcohmipjhfcaaGreatDoorB12
set_option linter.unusedVariables false
set_option linter.unusedSimpArgs false
set_option linter.unusedSectionVars false
open Go.Proofs.Tryz (prog)
open List (replicate)
namespace Go.Sl
open Go.Proofs
set_option maxRecDepth 4000
variable{b:Nat}{hw lw nw ow:Value}{L:List Int}{hs:List V9}{i:Int}
variable {κ:Ctx}{I:List Item}
theorem gc7{n:Net}{rs:List Row}(ab:n.Ok)(hr:ROk n (K7 rs))(ho:Sl κ I ow rs)(E:∀i:Int,0<=i->i<rs.length->Sl κ I (.slice (e_ rs i).a (e_ rs i).xs.length (e_ rs i).c) (e_ rs i).xs)(hL:(L.length:Int)=n.nodes)(M:∀z:Int,0<=z->z<n.nodes-> -1<=e_ L z/\e_ L z<n.nodes):∀(d:Nat) (lv:Int),n.nodes - lv<=d->gn8 κ I n rs b hw ow lw nw L lv:=by
 intro d
 induction d with
 |zero=>
  intro lv hd v most f nx hs aa h0 h1
  have:=(M v h0 h1).2
  omega
 |succ d ih=>
  intro lv hd v most f nx hs aa h0 h1 h2 h3 h4 h5 h6 h7 h8
  exact fb7 ab hr ho E hL M (ih (lv+1) om) aa h0 h1 h2 h3 h4 h5 h6 h7 h8
theorem cr5{n:Net}{f:List Int}{rs:List Row}{nx:List Int}(M:n.Ok)(hh:HOk n f hs)(hr:ROk n (K7 rs))(ho:Sl κ I ow rs)(ae:∀i:Int,0<=i->i<rs.length->Sl κ I (.slice (e_ rs i).a (e_ rs i).xs.length (e_ rs i).c) (e_ rs i).xs)(hL:(L.length:Int)=n.nodes)(hN:(nx.length:Int)=n.nodes)(hf:ab2 n f)(ap:ar5 n f n.source=0):er prog κ 336 [(pt b),e7 (n.source)] (e8 b [hw,ow,lw,nw,e7 (n.sink)] 339::vc 336 hw (hs)::vc 3 lw (L)::vc 3 nw (nx)::I) (λr J=>∃(val:Int) (f':List Int) (hs':List V9) (L' nx':List Int),r=e7 val/\(Full n f' val/\HOk n f' hs')/\J=e8 b [hw,ow,lw,nw,e7 (n.sink)] 339::vc 336 hw (hs')::vc 3 lw (L')::vc 3 nw (nx')::I):=by
 have ay:=M.lim
 have ad:=M.src
 have av:=M.snk
 refine Ce2 Tryz.func336 C C ?_
 refine Aj<|Ga C<|Aq<|Aj<|Ga C<|Aq<|Ax<|A3<|B4 (σ:=Int×(List Int)×(List V9)×(List Int)×(List Int)) (λs=>([(0,pt b),(1,e7<|n.source),(5,e7<|s.1)]:Env)) (λs=>e8 b [hw,ow,lw,nw,e7<|n.sink] 339::vc 336 hw (s.2.2.1)::vc 3 lw (s.2.2.2.1)::vc 3 nw (s.2.2.2.2)::I) (λs=>(ab2 n s.2.1)/\(s.1=ar5 n s.2.1 n.source)/\(0<=s.1)/\(HOk n s.2.1 s.2.2.1)/\((s.2.2.2.1.length:Int)=n.nodes)/\((s.2.2.2.2.length:Int)=n.nodes)) (λs=>(18014398509481984 - s.1).toNat) (0,f,hs,L,nx) ⟨hf,ap.symm,om,hh,hL,hN⟩ (cx2<|Aa Co A9) Ar ?_
 rintro ⟨val,f,hs,L,nx⟩ hp
 dsimp only at hp ⊢
 obtain ⟨hf,aq,ap,hh,hL,hN⟩:=hp
 refine Ax<|Aj<|Gm C<|Gm C<|G.e (Ac c_ C C<|fc5 (n:=n) (f:=f) M hh hr ho ae om om) ?_
 rintro _ _ ⟨_,_,⟨L1,ab,rfl,⟨E,an,ah⟩,rfl⟩,rfl,rfl⟩
 have aj:=E.len
 refine Aq<|Am C (λc8=>?_)<|λc8=>?_
 ·refine A4 (Al<|A3<|A1<|Gm C<|Gm C<|Gm C<|G.e (Ac c_ C C<|Cm (J:=e8 b [hw,ow,lw,nw,e7<|n.sink] 339::vc 336 hw (hs)::vc 3 lw (L1)::vc 3 nw (ab)::I) Ar<|gc7 M hr ho ae aj E.low n.nodes.toNat 0 om n.source 4611686018427387904 f ab hs E.src ad.1 ad.2 (by rw [E.src];exact Hn _) om om hh (λu h0 h1 j hj=>by rw [ah u h0 h1] at hj;omega) (λz h0 h1=>by rw [ah z h0 h1];exact Hn _) an) ?_)
  rintro _ _ ⟨_,_,⟨d3,f4,ar,au,rfl,⟨ax,aa,ao,ak⟩,rfl⟩,rfl,rfl⟩
  have ai:=aa.cx9 M hf
  have a1:=cs8 M ai.1 (λz=>z==n.source) (by simp) (by simpa using λe=>M.ne e.symm)
  have a0:=(bx6 M<|λz=>z==n.source).2
  have aw:1<=d3:=Int.not_lt.1 λh=>ak om (by rw [aa.zero om];exact E.go M c8)
  have az:=aa.cn5
  exact Gr (Rad C C)<|Ga C<|Bl<|Ap<|Bh ((val+d3),(f4),(ar),(L1),(au))<|by dsimp only;exact ⟨ai.1,om,om,ao,om,om⟩
 exact B6<|Ao<|Ao<|A5<|Al<|Aj<|Gm C<|Ga C<|Aq<|Bq<|Ak C C (e8 b [hw,ow,lw,nw,e7<|n.sink] 339::vc 336 hw (hs)::vc 3 lw (L1)::vc 3 nw (ab)::I) Ar ⟨val,f,hs,L1,ab,rfl,⟨⟨hf,aq,E.end M c8⟩,hh⟩,rfl⟩
section
variable {n:Net}{f todo:List Int}{rs:List Row}{x v:Int}{q:Nat}{ag:Bool}{seen:List Bool}
theorem gj7(h:ag=true):H4 n f (F9 i)=goH n f ag i:=by unfold goH;rw [By h]
theorem gj8(h:ag=false):H4 n f i=goH n f ag i:=by unfold goH;rw [An (by rw [h];decide)]
theorem RI.dn2(h:RI n f ag v (K7 rs) seen todo x q)(M:0<goH n f ag (e_ (e_ rs x).xs (q:Int))->e_ seen (toH n (e_ (e_ rs x).xs (q:Int)))=true):RI n f ag v (K7 rs) seen todo x (q+1):=h.inc (by rw [V1];exact M)
theorem RI.dd7(E:n.Ok)(h:RI n f ag v (K7 rs) seen todo x q)(hx:0<=x)(hv:0<=v)(hi:InH n (e_ (e_ rs x).xs (q:Int))/\J4 n (e_ (e_ rs x).xs (q:Int))=x)(hl:0<goH n f ag (e_ (e_ rs x).xs (q:Int)))(hn:(!e_ seen (toH n (e_ (e_ rs x).xs (q:Int))))=true) :
  RI n f ag v (K7 rs) (seen.set (toH n<|e_ (e_ rs x).xs (q:Int)).toNat true) (todo++[toH n (e_ (e_ rs x).xs (q:Int))]) x (q+1)/\unB (seen.set (toH n<|e_ (e_ rs x).xs (q:Int)).toNat true)+1=unB seen:=by
 have h1:=h.put E hx hv hi.1 hi.2 hl (by simpa using hn)
 refine ⟨h1.1.dn2 λ_=>?_,h1.2⟩
 have M:=X1 E hi.1
 rw [Dq _ _ _ _ M.2.1.1 M.2.1.1 (by have:=h.len;omega),By rfl]
theorem RI.fx9(h:RI n f ag v (K7 rs) seen todo x q)(M:(e_ rs x).xs.length<=q):RI n f ag v (K7 rs) seen todo (-1) 0:=h.over (by rw [V1];exact M)
end
theorem dj8{κ:Ctx}{I:List Item}{n:Net}{f:List Int}{rs:List Row}{v:Int}{ag:Bool}(aa:n.Ok)(hh:HOk n f hs)(ad:Sl κ I hw hs)(hr:ROk n (K7 rs))(ho:Sl κ I ow rs)(an:∀i:Int,0<=i->i<rs.length->Sl κ I (.slice (e_ rs i).a (e_ rs i).xs.length (e_ rs i).c) (e_ rs i).xs)(hv:0<=v/\v<n.nodes):er prog κ 318 [(pt b),e7 v,.bool ag] (e8 b [hw,ow,lw,nw,e7 (n.sink)] 339::I) (λr J=>∃(a:Option Addr) (c:Nat) (seen:List Bool),r = .slice a seen.length c/\Seen n f ag v seen/\J=vq 4 a c seen::e8 b [hw,ow,lw,nw,e7 (n.sink)] 339::I):=by
 have a8:=aa.lim
 have a7:=aa.src
 have a9:=aa.snk
 have bh:=hh.len
 have aw:=hr.rl
 refine Ce3 Tryz.func318 C C ?_
 refine Aj<|Ga C<|Aq<|Aj<|Gm C<|Gr (Bw C)<|Gf am8 C<|Gl ge2 ?_
 refine Gr (C3 (α:=Row) (xs:=rs) Cx C<|Bc ho)<|Ge2 (Ca (α:=Bool) (n:=rs.length) Bk ty4 C C C om om dc C) λai ah=>?_
 have bk:(replicate rs.length (default:Bool)).length=rs.length:=Fw
 refine Ga C<|Aq<|Aj<|Gm C<|Gm C<|Gr (A2 (α:=Bool) (xs:=replicate rs.length (default:Bool)) Bk ty4 C C A6 om om)<|Ge0 (Cr (α:=Bool) (xs:=replicate rs.length (default:Bool)) (e:=4) (new:=true) ty4 C C C om om am) ?_
 have h0:∀z:Int,0<=z->z<n.nodes->e_ (replicate rs.length (default:Bool)) z=false:=λz a b=>ak4 _ _ _ a om
 have a0:=RI.start (f:=f) (ag:=ag) (rs:=K7 rs) hv (s0:=replicate rs.length (default:Bool)) (by rw [Fw];exact aw) h0
 have au:unB (List.set (replicate rs.length (default:Bool)) v.toNat true)+[v].length<=n.nodes.toNat+1:=by have h9:=List.count_le_length (a:=false) (l:=List.set (replicate rs.length (default:Bool)) v.toNat true);rw [Gd,Fw] at h9;unfold unB;simp only [Fu,F_];omega
 refine Aq<|A0 (S4 7 0 1 2)<|Ax<|Aj<|Gm C<|Ge1 (Bt (α:=Int) (cs:=[_]) (xs:=[v]) Ab ef C C dc dc C C C C) λav=>?_
 refine Ga C<|Aq<|A3<|B4 (σ:=(Option Addr)×Nat×(List Int)×(List Bool)) (λs=>([(0,pt b),(2,.bool ag),(7,.slice ai (replicate rs.length (default:Bool)).length ah),(8,.slice s.1 s.2.2.1.length s.2.1)]:Env)) (λs=>vq 3 s.1 s.2.1 s.2.2.1::vc 4 (.slice ai (replicate rs.length (default:Bool)).length ah) (s.2.2.2)::e8 b [hw,ow,lw,nw,e7<|n.sink] 339::I) (λs=>(RI n f ag v (K7 rs) s.2.2.2 s.2.2.1 (-1) 0)/\(unB s.2.2.2+s.2.2.1.length<=n.nodes.toNat+1)) (λs=>unB s.2.2.2+s.2.2.1.length) (av,1,[v],List.set (replicate rs.length (default:Bool)) (v).toNat (true)) ⟨a0,au⟩ (cx2<|Aa C<|Aa (Da C<|by first|rfl|simp) A9) Ar ?_
 rintro ⟨a,c,todo,seen⟩ hp
 dsimp only at hp ⊢
 obtain ⟨hI,bm⟩:=hp
 have bf:=hI.len
 refine Ax<|Aj<|Gm C<|Gr (Bj Ab C)<|Gr (Cl C C)<|Aq<|Am C (λa3=>?_)<|λa3=>?_
 ·refine A4 (Al<|Ax<|A3<|Ax<|A8 mixed<|C1 11<|Dr 0 C (Ad C) ?_)
  have aj:=hI.wait _ (B3 (xs:=todo) (i:=0) om om)
  refine Dr 1 C (Bw C)<|Dr 2 C (Ai am8 C)<|Dr 3 C (Bd ge2) ?_
  refine Dr 4 C (Ad C)<|Dr 5 C (A2 (α:=Int) (xs:=todo) Ab ef C C A6 om om)<|Dr 6 C (B8 (xs:=todo) ef C A6 om om)<|Dr 7 C (A2 (α:=Row) (xs:=rs) Cx ab3 C C (Bc ho) om om)<|Dr 8 C (E5 (α:=Row) (xs:=rs) (u:= .slice (e_ rs<|e_ todo 0).a (e_ rs<|e_ todo 0).xs.length (e_ rs<|e_ todo 0).c) ab3 C (Bc ho) om om C)<|Dr 9 C (Bj Ab C)<|Dr 10 C (Ad C)<|Dz<|Al<|A0 (S7 39 38 37 0 2 7 8)<|A3<|B4 (σ:=Nat×(Option Addr)×Nat×(List Int)×(List Bool)) (λs=>([(0,pt b),(2,.bool ag),(7,.slice ai (replicate rs.length (default:Bool)).length ah),(8,.slice s.2.1 s.2.2.2.1.length s.2.2.1),(37,.slice (e_ rs<|e_ todo 0).a (e_ rs<|e_ todo 0).xs.length (e_ rs<|e_ todo 0).c),(38,e7<|(((e_ rs<|e_ todo 0).xs.length:Nat):Int)),(39,e7 ((s.1:Nat):Int))]:Env)) (λs=>vq 3 s.2.1 s.2.2.1 s.2.2.2.1::vc 4 (.slice ai (replicate rs.length (default:Bool)).length ah) (s.2.2.2.2)::e8 b [hw,ow,lw,nw,e7<|n.sink] 339::I) (λs=>(s.1<=(e_ rs<|e_ todo 0).xs.length)/\(0<s.2.2.2.1.length)/\(e_ s.2.2.2.1 0=(e_ todo 0))/\(RI n f ag v (K7 rs) s.2.2.2.2 (s.2.2.2.1.drop 1) (e_ todo 0) s.1)/\(unB s.2.2.2.2+s.2.2.2.1.length=unB seen+todo.length)) (λs=>(e_ rs<|e_ todo 0).xs.length - s.1) (0,a,c,todo,seen) (show ((0:Nat)<=(e_ rs<|e_ todo 0).xs.length)/\(0<(todo:List Int).length)/\(e_ (todo:List Int) 0=(e_ todo 0))/\(RI n f ag v (K7 rs) (seen:List Bool) ((todo:List Int).drop 1) (e_ todo 0) (0:Nat))/\(unB (seen:List Bool)+(todo:List Int).length=unB seen+todo.length) from ⟨om,om,rfl,(hI.next om),rfl⟩) (cx2<|Aa C<|Aa (Da C<|by first|rfl|simp)<|cx2<|Aa Co A9) Ar ?_
  rintro ⟨q,a1,c1,w,M⟩ hp
  dsimp only at hp ⊢
  obtain ⟨hq,ae,ak,E,ap⟩:=hp
  refine W.pull (λw hs=>(Bs (an (e_ todo 0) om om) Af).le w hs) λbj=>?_
  have be:=E.len
  refine Aj<|Gr (Bp C C)<|Aq<|Ax<|Am C (λa5=>?_)<|λa5=>?_
  ·refine A4 (Al<|Ax<|A3<|Aj<|Gr (A2 (α:=Int) (xs:=(e_ rs<|e_ todo 0).xs) Ab ef C C (Bs (an (e_ todo 0) om om) Af) om om)<|Gr (B8 (xs:=(e_ rs<|e_ todo 0).xs) ef C (Bs (an (e_ todo 0) om om) Af) om om) ?_)
   have hm:=hr.row aj.1.1 aj.1.2 (j:=(q:Int)) om om
   have hg:=hh.get _ hm.1
   have bc:=X1 aa hm.1
   have bg:0<=(e_ (e_ rs<|e_ todo 0).xs (q:Int))/\(e_ (e_ rs<|e_ todo 0).xs (q:Int))<2*n.j9.length:=hm.1
   have bb:0<=F9 (e_ (e_ rs<|e_ todo 0).xs (q:Int))/\F9 (e_ (e_ rs<|e_ todo 0).xs (q:Int))<2*n.j9.length:=hm.1.fu3
   have aq:=hh.get _ hm.1.fu3
   refine Ga C<|Aq<|Ax<|A8 mixed<|C1 19<|Dr 0 C (Ad C)<|Dr 1 C (Bw C)<|Dr 2 C (Ai X5 C)<|Dr 3 C (Bd bm2) ?_
   refine Dr 4 C (Ad C)<|Dr 5 C (A2 (α:=V9) (xs:=hs) Ck ae6 C C (Bc ad) om om)<|Dr 6 C (D4 (α:=V9) (xs:=hs) af9 C (Bc ad) om)<|Dr 7 C (D4 (α:=V9) (xs:=hs) ag0 C (Bc ad) om)<|Dr 8 C (D9 (α:=V9) (xs:=hs) (u:=e7 ((e_ hs<|e_ ((e_ rs<|e_ todo 0).xs) (q:Int)).dst)) ef C (Bc ad) om om C)<|Dr 9 C (Ad C)<|Dr 10 C (Bw C)<|Dr 11 C (Ai X5 C)<|Dr 12 C (Bd bm2) ?_
   refine Dr 13 C (Ad C)<|Dr 14 C (A2 (α:=V9) (xs:=hs) Ck ae6 C C (Bc ad) om om)<|Dr 15 C (D4 (α:=V9) (xs:=hs) T3 C (Bc ad) om)<|Dr 16 C (D9 (α:=V9) (xs:=hs) (u:=e7 ((e_ hs<|e_ ((e_ rs<|e_ todo 0).xs) (q:Int)).left)) ef C (Bc ad) om om C)<|Dr 17 C (Bo C)<|Dr 18 C (Bo C)<|Dz<|Al<|A0 (S10 12 11 10 0 2 7 8 37 38 39)<|D2 (σ:=Int) (λs=>([(0,pt b),(2,.bool ag),(7,.slice ai (replicate rs.length (default:Bool)).length ah),(8,.slice a1 w.length c1),(11,e7<|(e_ hs<|e_ ((e_ rs<|e_ todo 0).xs) (q:Int)).dst),(12,e7 s),(37,.slice (e_ rs<|e_ todo 0).a (e_ rs<|e_ todo 0).xs.length (e_ rs<|e_ todo 0).c),(38,e7<|(((e_ rs<|e_ todo 0).xs.length:Nat):Int)),(39,e7<|(q:Int))]:Env)) (λs=>vq 3 a1 c1 w::vc 4 (.slice ai (replicate rs.length (default:Bool)).length ah) (M)::e8 b [hw,ow,lw,nw,e7<|n.sink] 339::I) (λs=>(s=goH n f ag (e_ (e_ rs<|e_ todo 0).xs (q:Int)))) ?_ ?_
   ·refine Aj (Gm C<|Aq<|D8 C (λao=>?_)<|λao=>?_)
    ·refine A1 (Gm C<|Gr (Bw C)<|Gf X5 C<|Gl bm2 ?_)
     exact Gm C<|Gr ((cs6 (i:=e_ ((e_ rs<|e_ todo 0).xs) (q:Int)) om om)▸j0.gw1 C C)<|Gr (A2 (α:=V9) (xs:=hs) Ck ae6 C C (Bc ad) om om)<|Gr (D4 (α:=V9) (xs:=hs) T3 C (Bc ad) om)<|Gr (D9 (α:=V9) (xs:=hs) (u:=e7 ((e_ hs<|F9<|e_ ((e_ rs<|e_ todo 0).xs) (q:Int)).left)) ef C (Bc ad) om om C)<|Ga C<|Bl<|Bu (((e_ hs<|F9<|e_ ((e_ rs<|e_ todo 0).xs) (q:Int)).left))<|by first|exact hg.2.2.trans (gj8 ao)|exact aq.2.2.trans (gj7 ao)
    exact A4<|Bu (((e_ hs<|e_ ((e_ rs<|e_ todo 0).xs) (q:Int)).left))<|by first|exact hg.2.2.trans (gj8 ao)|exact aq.2.2.trans (gj7 ao)
   rintro az hp
   have ba:(az=goH n f ag (e_ (e_ rs<|e_ todo 0).xs (q:Int))):=hp
   refine Aj<|Gm C<|Gr (Cl C C)<|Gm C<|Au (d:=72) C (λax=>?_)<|λax=>?_
   ·refine e9 (Ad C) (e9 (Ad C)<|e9 (A2 (α:=Bool) (xs:=M) Bk ty4 C C A6 om om)<|e9 (Fl (xs:=M) ty4 C A6 om om)<|e9 (j0.not C)<|Gr (Br C C)<|Aq<|A0 (S9 78 0 2 7 8 11 37 38 39)<|D8 C (λab=>?_)<|λab=>?_)
    ·refine Aj (Gm C<|Gm C<|Gr (A2 (α:=Bool) (xs:=M) Bk ty4 C C A6 om om)<|Ge0 (Cr (α:=Bool) (xs:=M) (e:=4) (new:=true) ty4 C C C om om am) ?_)
     refine Aq<|A1<|Gm C<|Gm C<|Ge1 (Bt (α:=Int) (cs:=[_]) (xs:=[(e_ hs<|e_ ((e_ rs<|e_ todo 0).xs) (q:Int)).dst]) Ab ef C C dc dc C C C C) λbi=>?_
     refine Ge2 (Bv (α:=Int) (e:=3) (xs:=w) (ys:=([(e_ hs<|e_ ((e_ rs<|e_ todo 0).xs) (q:Int)).dst]:List Int)) Ab ef C C C mm A6 lcn dc C<|λ_ _=>am) λay a6=>?_
     exact Ga C<|Bl<|Ap<|Al<|A0 (S7 8 0 2 7 37 38 39)<|A1<|Gr (Rad C C)<|Gm C<|Bl<|Bh ((q+1),(ay),(a6),(w++([(e_ hs<|e_ ((e_ rs<|e_ todo 0).xs) (q:Int)).dst]:List Int)),(List.set M ((e_ hs<|e_ ((e_ rs<|e_ todo 0).xs) (q:Int)).dst).toNat (true)))<|by dsimp only;exact ⟨om,(by first|exact ae|(rw [A_];omega)),(by first|exact ak|(rw [M8 ae];exact ak)),(by first|exact E.dn2 (λh=>by omega)|exact E.dn2 (λ_=>by rw [←hg.2.1];simpa using ab)|(rw [hg.2.1,K8 ae];exact (E.dd7 aa aj.1.1 hv.1 hm om<|by rw [←hg.2.1];exact ab).1)),(by first|exact ap|(rw [hg.2.1,A_];have:=(E.dd7 aa aj.1.1 hv.1 hm om<|by rw [←hg.2.1];exact ab).2;simp only [Fu,F_];omega))⟩
    exact A4<|Ap<|Al<|A1<|Gr (Rad C C)<|Gm C<|Bl<|Bh ((q+1),(a1),(c1),(w),(M))<|by dsimp only;exact ⟨om,(by first|exact ae|(rw [A_];omega)),(by first|exact ak|(rw [M8 ae];exact ak)),(by first|exact E.dn2 (λh=>by omega)|exact E.dn2 (λ_=>by rw [←hg.2.1];simpa using ab)|(rw [hg.2.1,K8 ae];exact (E.dd7 aa aj.1.1 hv.1 hm om<|by rw [←hg.2.1];exact ab).1)),(by first|exact ap|(rw [hg.2.1,A_];have:=(E.dd7 aa aj.1.1 hv.1 hm om<|by rw [←hg.2.1];exact ab).2;simp only [Fu,F_];omega))⟩
   exact eb<|eb<|eb<|eb<|eb<|Gr (Bg C C)<|Aq<|A0 (S9 78 0 2 7 8 11 37 38 39)<|W.no C<|A4<|Ap<|Al<|A1<|Gr (Rad C C)<|Gm C<|Bl<|Bh ((q+1),(a1),(c1),(w),(M))<|by dsimp only;exact ⟨om,(by first|exact ae|(rw [A_];omega)),(by first|exact ak|(rw [M8 ae];exact ak)),(by first|exact E.dn2 (λh=>by omega)|exact E.dn2 (λ_=>by rw [←hg.2.1];simpa using ab)|(rw [hg.2.1,K8 ae];exact (E.dd7 aa aj.1.1 hv.1 hm om<|by rw [←hg.2.1];exact ab).1)),(by first|exact ap|(rw [hg.2.1,A_];have:=(E.dd7 aa aj.1.1 hv.1 hm om<|by rw [←hg.2.1];exact ab).2;simp only [Fu,F_];omega))⟩
  refine B6<|Ao<|Ao<|A5<|Ap<|Al<|A1<|Gm C<|Gr (En (α:=Int) (xs:=w) (l:=1) Ab ef C C om A6 om)<|Fo (J:=vq 3 (M0 a1 c1 1<|Enc.sz Int) (c1 - 1) (List.drop 1 w)::vc 4 (.slice ai (replicate rs.length (default:Bool)).length ah) (M)::e8 b [hw,ow,lw,nw,e7<|n.sink] 339::I) (Fit.upd am<|dp9 (l:=1) om) ?_
  exact Ga C<|Bl<|Bh (((M0 a1 c1 1<|Enc.sz Int)),((c1 - 1)),(List.drop 1 w),(M)) (by dsimp only;exact ⟨(E.fx9 om),(by rw [Ge];omega)⟩) (hlt:=by (try dsimp only);exact (by rw [Ge];omega))
 refine B6<|Ao<|Ao<|A5<|Al<|Aj<|Gm C<|Ga C<|Aq<|Bq ?_
 have a4:=hI.done aa hr om
 have ar:(replicate rs.length (default:Bool)).length=seen.length:=by rw [Fw];omega
 exact Ak C C (vc 4 (.slice ai (replicate rs.length (default:Bool)).length ah) (seen)::e8 b [hw,ow,lw,nw,e7<|n.sink] 339::I) Ar ⟨ai,ah,seen,by rw [ar],a4,by rw [ar]⟩
end Go.Sl
namespace Go.Sl
open Go.Proofs
set_option maxRecDepth 4000
variable{rs:List Row}{hs:List V9}{k:Nat}
variable {κ:Ctx}{I:List Item}
attribute [local irreducible] W G V D A j0 Eff
def af0(rs:List Row):List Item:=rs.map λr=>vq 3 r.a r.c r.xs
theorem Fit.dr6:∀N:Nat,Fit κ I (af0 (replicate N (default:Row))++I)
 |0=>Di _
 |N+1=>Bz (Fit.dr6 N) (Bb _ _)
theorem At.rows{I:List Item}{ad:Option Addr}{c:Nat}{xs:List Int}:∀{rs:List Row} {i:Int},0<=i->i<rs.length->
  At (af0 rs++I) (vc 3 (.slice (e_ rs i).a (e_ rs i).xs.length (e_ rs i).c) (e_ rs i).xs) (vc 3 (.slice ad xs.length c) xs) (af0 (List.set rs i.toNat ⟨ad,c,xs⟩)++I):=fun {rs} {i} M h=>by
 obtain ⟨k,rfl⟩:∃k:Nat,i=(k:Int):=⟨i.toNat,by omega⟩
 rw [Hu]
 clear M
 induction rs generalizing k with
 |nil=>simp at h;omega
 |cons r rs ih=>
  cases k with
  |zero=>exact At.head _ _ _
  |succ k=>exact At.tail _ (ih k<|by simp at h;omega)
theorem bf2{I:List Item}{i:Int}(M:0<=i)(h:i<rs.length):vq 3 (e_ rs i).a (e_ rs i).c (e_ rs i).xs∈af0 rs++I:=(At.rows (ad:=none) (c:=0) (xs:=[]) M h).mem
theorem cu4(i:Int)(M:0<=i)(h:i<rs.length):Sl κ (af0 rs++I) (.slice (e_ rs i).a (e_ rs i).xs.length (e_ rs i).c) (e_ rs i).xs:=Ed (bf2 M h)
structure OI (n:Net) (rs:List Row) (hs:List V9) (k:Nat):Prop where
 len:(rs.length:Int)=n.nodes
 hlen:hs.length=2*k
 get:∀i:Int,0<=i->i<2*k->(e_ hs i).frm=J4 n i/\(e_ hs i).dst=toH n i/\(e_ hs i).left=if i % 2=0 then (e_ n.j9<|i / 2).cap else 0
 all:∀v,0<=v->v<n.nodes->∀i∈(e_ rs v).xs,(0<=i/\i<2*k)/\J4 n i=v
 has:∀i:Int,0<=i->i<2*k->i∈(e_ rs<|J4 n i).xs
 bnd:∀v,0<=v->v<n.nodes->(e_ rs v).xs.length<=2*k
theorem OI.start{n:Net}(M:n.Ok):OI n (replicate n.nodes.toNat (default:Row)) [] 0:=by
 have:=M.two
 have h:∀v,0<=v->v<n.nodes->e_ (replicate n.nodes.toNat (default:Row)) v=default:=λv a b=>ak4 _ _ _ a om
 exact ⟨by rw [Fw];omega,rfl,λi a b=>by omega,λv a b i hi=>(by rw [h v a b] at hi;cases hi),λi a b=>om,λv a b=>(by rw [h v a b];exact Le _)⟩
theorem OI.step{n:Net}(ab:n.Ok)(h:OI n rs hs k)(hk:k<n.j9.length)(a1 a2:Option Addr)(c1 c2:Nat){x y u w:Int}(hx:x=2*k)(hy:y=2*k+1)(hu:u=(e_ n.j9 k).frm)(hw:w=(e_ n.j9 k).dst) :
  OI n (List.set (List.set rs u.toNat ⟨a1,c1,(e_ rs u).xs++[x]⟩) w.toNat ⟨a2,c2,(e_ (List.set rs u.toNat ⟨a1,c1,(e_ rs u).xs++[x]⟩) w).xs++[y]⟩)
   (hs++[⟨u,w,(e_ n.j9 k).cap,(e_ n.j9 k).cap⟩,⟨w,u,0,0⟩]) (k+1):=by
 have ha:=br9 ab hk
 subst hx hy hu hw
 have hlen:=h.len
 have ae:=h.hlen
 generalize hA:e_ n.j9 k=A at *
 have f0:J4 n (2*(k:Int))=A.frm:=by unfold J4;rw [By om,show (2*(k:Int)) / 2=k from by omega,hA]
 have f1:J4 n (2*(k:Int)+1)=A.dst:=by unfold J4;rw [An om,show (2*(k:Int)+1) / 2=k from by omega,hA]
 have t0:toH n (2*(k:Int))=A.dst:=by unfold toH;rw [By om,show (2*(k:Int)) / 2=k from by omega,hA]
 have t1:toH n (2*(k:Int)+1)=A.frm:=by unfold toH;rw [An om,show (2*(k:Int)+1) / 2=k from by omega,hA]
 have e1:e_ (List.set rs A.frm.toNat ⟨a1,c1,(e_ rs A.frm).xs++[2*(k:Int)]⟩) A.dst=e_ rs A.dst:=by rw [Dq rs _ _ _ ha.1.1 ha.2.1.1 om,An ha.2.2.1]
 have aa:∀v,0<=v->v<n.nodes->(e_ (List.set (List.set rs A.frm.toNat ⟨a1,c1,(e_ rs A.frm).xs++[2*(k:Int)]⟩) A.dst.toNat ⟨a2,c2,(e_ (List.set rs A.frm.toNat ⟨a1,c1,(e_ rs A.frm).xs++[2*(k:Int)]⟩) A.dst).xs++[2*(k:Int)+1]⟩) v).xs =
   (e_ rs v).xs++(if A.dst=v then [2*(k:Int)+1] else if A.frm=v then [2*(k:Int)] else []):=λv E h1=>by
  rw [Dq _ _ _ _ ha.2.1.1 E (by rw [Gd];omega),e1,Dq rs _ _ _ ha.1.1 E om]
  by_cases d1:A.dst=v
  ·rw [By d1,By d1,d1]
  rw [An d1,An d1]
  by_cases d2:A.frm=v
  ·rw [By d2,By d2,d2]
  rw [An d2,An d2,Hq]
 refine ⟨by simp;exact hlen,by simp;omega,λi E h1=>?_,λv E h1 i hi=>?_,λi E h1=>?_,λv E h1=>?_⟩
 ·by_cases hi:i<2*k
  ·have:=h.get i E hi
   have e:e_ (hs++[⟨A.frm,A.dst,A.cap,A.cap⟩,⟨A.dst,A.frm,0,0⟩]) i=e_ hs i:=by
    have:=D1 hs [⟨A.frm,A.dst,A.cap,A.cap⟩,⟨A.dst,A.frm,0,0⟩] i.toNat om
    rwa [show ((i.toNat:Nat):Int)=i from by omega] at this
   rw [e];exact this
  have M:i=2*(k:Int)\/i=2*(k:Int)+1:=by omega
  rcases M with rfl|rfl
  ·have e:e_ (hs++[⟨A.frm,A.dst,A.cap,A.cap⟩,⟨A.dst,A.frm,0,0⟩]) (2*(k:Int))=⟨A.frm,A.dst,A.cap,A.cap⟩:=by
    unfold e_
    rw [show (2*(k:Int)).toNat=hs.length+0 from by omega,Gs,Hg om,Jj];rfl
   rw [e,f0,t0,By om,show (2*(k:Int)) / 2=k from by omega,hA];exact ⟨rfl,rfl,rfl⟩
  have e:e_ (hs++[⟨A.frm,A.dst,A.cap,A.cap⟩,⟨A.dst,A.frm,0,0⟩]) (2*(k:Int)+1)=⟨A.dst,A.frm,0,0⟩:=by
   unfold e_
   rw [show (2*(k:Int)+1).toNat=hs.length+1 from by omega,Gs,Hg om,Jj];rfl
  rw [e,f1,t1,An om];exact ⟨rfl,rfl,rfl⟩
 ·rw [aa v E h1] at hi
  rcases Gu.1 hi with hi|hi
  ·have:=h.all v E h1 i hi
   exact ⟨by omega,this.2⟩
  by_cases d1:A.dst=v
  ·rw [By d1] at hi
   rw [Gj.1 hi];exact ⟨by omega,f1.trans d1⟩
  rw [An d1] at hi
  by_cases d2:A.frm=v
  ·rw [By d2] at hi
   rw [Gj.1 hi];exact ⟨by omega,f0.trans d2⟩
  rw [An d2] at hi;cases hi
 ·by_cases hi:i<2*k
  ·have:=h.has i E hi
   have ad:=br9 ab (k:=(i / 2).toNat) om
   rw [show (((i / 2).toNat:Nat):Int)=i / 2 from by omega] at ad
   rw [aa _ (by unfold J4;split<;>omega) (by unfold J4;split<;>omega)]
   exact Js _ this
  have M:i=2*(k:Int)\/i=2*(k:Int)+1:=by omega
  rcases M with rfl|rfl
  ·rw [f0,aa _ ha.1.1 ha.1.2,An<|λe=>ha.2.2.1 e.symm,By rfl];exact K_ _ (Gj.2 rfl)
  rw [f1,aa _ ha.2.1.1 ha.2.1.2,By rfl];exact K_ _ (Gj.2 rfl)
 rw [aa v E h1,A_]
 have:=h.bnd v E h1
 split
 ·simp only [Fu,F_];omega
 split<;>simp only [Fu,F_]<;>omega
theorem OI.done{n:Net}(M:n.Ok)(h:OI n rs hs k)(hk:k=n.j9.length):HOk n (replicate n.j9.length (0:Int)) hs/\ROk n (K7 rs):=by
 subst hk
 have hz:=bh3 n M
 have h0:∀j:Int,0<=j->j<n.j9.length->e_ (replicate n.j9.length (0:Int)) j=0:=λj a b=>ak4 _ _ _ a b
 refine ⟨⟨by have:=h.hlen;omega,by simp,hz.1.cap,λi hi=>?_⟩,⟨by unfold K7;rw [Gi];exact h.len,λv a b i hi=>by rw [V1] at hi;exact h.all v a b i hi,λi hi=>by rw [V1];exact h.has i hi.1 hi.2⟩⟩
 have E:=hi.half
 have:=h.get i hi.1 hi.2
 refine ⟨this.1,this.2.1,this.2.2.trans ?_⟩
 unfold H4
 rw [h0 _ E.1 E.2]
 split<;>omega
set_option maxHeartbeats 4000000 in
theorem gd0{n:Net}{v:Value}(hl:Sl κ I v n.j9)(aa:n.Ok):er prog κ 335 [.agg #[e7 (n.nodes),e7 (n.source),e7 (n.sink),v]] I (λr J=>∃(b:Nat) (hw ow lw nw:Value) (hs:List V9) (rs:List Row) (L nx:List Int),r = (pt b)/\(HOk n (replicate n.j9.length (0:Int)) hs/\ROk n (K7 rs)/\(L.length:Int)=n.nodes/\(nx.length:Int)=n.nodes)/\J=e8 b [hw,ow,lw,nw,e7 (n.sink)] 339::vc 336 hw (hs)::vc 3 lw (L)::vc 3 nw (nx)::(vc 22 ow rs::(af0 rs++I))):=by
 refine Cm (J:=(af0 (replicate n.nodes.toNat (default:Row))++I)) (Fit.dr6 _) ?_
 have ca:=hl
 have b5:=aa.lim
 have b6:=aa.two
 have b2:=aa.src
 have b3:=aa.snk
 refine Ce1 Tryz.func335 C C ?_
 refine Aj<|Ge1 (Ay (cs:=[_,_,_,_]) C C C) λb1=>Ga C<|Aq<|D2 (σ:=Nat×(Option Addr)×Nat×(Option Addr)×Nat×(Option Addr)×Nat) (λs=>([(1,pt b1),(3,pt s.1)]:Env)) (λs=>e8 s.1 [.slice none 0 0,.slice s.2.1 (replicate n.nodes.toNat (default:Row)).length s.2.2.1,.slice s.2.2.2.1 (replicate n.nodes.toNat (default:Int)).length s.2.2.2.2.1,.slice s.2.2.2.2.2.1 (replicate n.nodes.toNat (default:Int)).length s.2.2.2.2.2.2,e7<|n.sink] 339::vq 22 s.2.1 s.2.2.1 (replicate n.nodes.toNat (default:Row))::vq 3 s.2.2.2.1 s.2.2.2.2.1 (replicate n.nodes.toNat (default:Int))::vq 3 s.2.2.2.2.2.1 s.2.2.2.2.2.2 (replicate n.nodes.toNat (default:Int))::e8 b1 [e7 (n.nodes),e7<|n.source,e7<|n.sink,v] 303::(af0 (replicate n.nodes.toNat (default:Row))++I)) (λs=>True) ?_ ?_
 ·refine A8 mixed (C1 14<|Z ?_)
  refine Cg (rs:=[2,5,8]) kr C C<|Dk ?_<|Dk ?_<|Du ?_
  ·refine Se2 C (Ca (α:=Row) (n:=n.nodes.toNat) Cx ab3 C C C om om dc C) λbe bb=>?_
   refine Cg (rs:=[5,8]) kr C C<|Dk ?_<|Du ?_
   ·refine Se2 C (Ca (α:=Int) (n:=n.nodes.toNat) Ab ef C C C om om dc C) λbq bm=>?_
    refine Ds1 8<|Se2 C (Ca (α:=Int) (n:=n.nodes.toNat) Ab ef C C C om om dc C) λbo bx=>Z ?_
    refine Ds1 12<|Se1 C (Ay (cs:=[_,_,_,_,_]) C C C) λb8=>Z ?_
    exact Bu ((b8),(be),(bb),(bq),(bm),(bo),(bx)) trivial
   refine Se2 C (Ca (α:=Int) (n:=n.nodes.toNat) Ab ef C C C om om dc C) λbt au=>?_
   refine Ds1 5<|Se2 C (Ca (α:=Int) (n:=n.nodes.toNat) Ab ef C C C om om dc C) λay bh=>?_
   refine Dr 11 C (B1 (cells:=[_,_,_,_,_]) do2 Ek dq4 C C)<|Ds1 12<|Se1 C (Ay (cs:=[_,_,_,_,_]) C C C) λbr=>Z ?_
   exact Bu ((br),(be),(bb),(ay),(bh),(bt),(au)) trivial
  ·refine Se2 C (Ca (α:=Int) (n:=n.nodes.toNat) Ab ef C C C om om dc C) λap ak=>?_
   refine Cg (rs:=[2,8]) kr C C<|Dk ?_<|Du ?_
   ·refine Se2 C (Ca (α:=Row) (n:=n.nodes.toNat) Cx ab3 C C C om om dc C) λa3 ar=>?_
    refine Ds1 8<|Se2 C (Ca (α:=Int) (n:=n.nodes.toNat) Ab ef C C C om om dc C) λaz a4=>Z ?_
    refine Ds1 12<|Se1 C (Ay (cs:=[_,_,_,_,_]) C C C) λbn=>Z ?_
    exact Bu ((bn),(a3),(ar),(ap),(ak),(az),(a4)) trivial
   refine Se2 C (Ca (α:=Int) (n:=n.nodes.toNat) Ab ef C C C om om dc C) λa5 av=>?_
   refine Ds1 2<|Se2 C (Ca (α:=Row) (n:=n.nodes.toNat) Cx ab3 C C C om om dc C) λa0 a8=>?_
   refine Dr 11 C (B1 (cells:=[_,_,_,_,_]) do2 Ek dq4 C C)<|Ds1 12<|Se1 C (Ay (cs:=[_,_,_,_,_]) C C C) λbu=>Z ?_
   exact Bu ((bu),(a0),(a8),(ap),(ak),(a5),(av)) trivial
  refine Se2 C (Ca (α:=Int) (n:=n.nodes.toNat) Ab ef C C C om om dc C) λai ae=>?_
  refine Cg (rs:=[2,5]) kr C C<|Dk ?_<|Du ?_
  ·refine Se2 C (Ca (α:=Row) (n:=n.nodes.toNat) Cx ab3 C C C om om dc C) λaw bi=>?_
   refine Ds1 5<|Se2 C (Ca (α:=Int) (n:=n.nodes.toNat) Ab ef C C C om om dc C) λa9 a6=>?_
   refine Dr 11 C (B1 (cells:=[_,_,_,_,_]) do2 Ek dq4 C C)<|Ds1 12<|Se1 C (Ay (cs:=[_,_,_,_,_]) C C C) λbw=>Z ?_
   exact Bu ((bw),(aw),(bi),(a9),(a6),(ai),(ae)) trivial
  refine Se2 C (Ca (α:=Int) (n:=n.nodes.toNat) Ab ef C C C om om dc C) λbc a7=>?_
  refine Ds1 2<|Se2 C (Ca (α:=Row) (n:=n.nodes.toNat) Cx ab3 C C C om om dc C) λax bj=>?_
  refine Dr 11 C (B1 (cells:=[_,_,_,_,_]) do2 Ek dq4 C C)<|Ds1 12<|Se1 C (Ay (cs:=[_,_,_,_,_]) C C C) λbv=>Z ?_
  exact Bu ((bv),(ax),(bj),(bc),(a7),(ai),(ae)) trivial
 rintro ⟨b,ao,co,al,cl,an,cn⟩ hp
 refine Z ?_
 refine B4 (σ:=Nat×(Option Addr)×Nat×(List V9)×(List Row)) (λs=>([(3,pt b),(20,v),(21,e7 ((n.j9.length:Nat):Int)),(22,e7 ((s.1:Nat):Int))]:Env)) (λs=>vq 336 s.2.1 s.2.2.1 s.2.2.2.1::e8 b [.slice s.2.1 s.2.2.2.1.length s.2.2.1,.slice ao (replicate n.nodes.toNat (default:Row)).length co,.slice al (replicate n.nodes.toNat (default:Int)).length cl,.slice an (replicate n.nodes.toNat (default:Int)).length cn,e7<|n.sink] 339::vc 22 (.slice ao (replicate n.nodes.toNat (default:Row)).length co) (s.2.2.2.2)::vq 3 al cl (replicate n.nodes.toNat (default:Int))::vq 3 an cn (replicate n.nodes.toNat (default:Int))::e8 b1 [e7 (n.nodes),e7<|n.source,e7<|n.sink,v] 303::(af0 s.2.2.2.2++I)) (λs=>(s.1<=n.j9.length)/\(OI n s.2.2.2.2 s.2.2.2.1 s.1)) (λs=>n.j9.length - s.1) (0,none,0,[],(replicate n.nodes.toNat (default:Row))) ⟨om,(OI.start aa)⟩ (cx2<|Aa C<|Aa Co A9) (Bb _ _) ?_
 rintro ⟨k,ah,ch,hs,rs⟩ hp
 dsimp only at hp ⊢
 obtain ⟨hk,hO⟩:=hp
 have hlen:=hO.len
 have cb:=hO.hlen
 refine Z ?_
 refine Am C (λbk=>Z ?_)<|λbk=>Z ?_
 ·have hb:=aa.arc (e_ n.j9 k) (B3 om om)
  have b7:=hO.bnd _ hb.1.1 hb.1.2
  have bp:=hO.bnd _ hb.2.1.1 hb.2.1.2
  refine Ge1 (Ah bt7 C) λaq=>Ge0 (ck1 bt7) ?_
  refine Aq<|Ax<|A8 mixed<|Cf (e8 aq [e7 ((e_ n.j9 k).frm),e7<|(e_ n.j9 k).dst,e7<|(e_ n.j9 k).cap] 305::vq 336 ah ch hs::e8 b [.slice ah hs.length ch,.slice ao (replicate n.nodes.toNat (default:Row)).length co,.slice al (replicate n.nodes.toNat (default:Int)).length cl,.slice an (replicate n.nodes.toNat (default:Int)).length cn,e7<|n.sink] 339::vc 22 (.slice ao (replicate n.nodes.toNat (default:Row)).length co) (rs)::vq 3 al cl (replicate n.nodes.toNat (default:Int))::vq 3 an cn (replicate n.nodes.toNat (default:Int))::e8 b1 [e7 (n.nodes),e7<|n.source,e7<|n.sink,v] 303::I) 22<|Z ?_
  refine Ds1 19<|Se1 C (Bt (α:=Int) (cs:=[_]) (xs:=[((hs.length:Nat):Int)]) Ab ef C C dc dc C C C C) λaj=>?_
  refine Ds1 20<|Se2 C (Bv (α:=Int) (e:=3) (xs:=(e_ rs<|(e_ n.j9 k).frm).xs) (ys:=([((hs.length:Nat):Int)]:List Int)) Ab ef C C C (by repeat (first|exact bf2 (rs:=rs) (i:=((e_ n.j9 k).frm)) om om|apply Fv)) A6 lcn dc C<|λ_ _=>(by repeat (first|exact At.rows (rs:=rs) (i:=((e_ n.j9 k).frm)) om om|apply At.tail))) λM E=>Z ?_
  refine De kr ?_
  refine Ae 22 C (Cr (α:=Row) (xs:=rs) (e:=22) (new:=(⟨M,E,((e_ rs<|(e_ n.j9 k).frm).xs++([((hs.length:Nat):Int)]:List Int))⟩:Row)) ab3 C C C om om am) ?_
  rintro _ _ ⟨rfl,rfl⟩
  have b9:(List.set rs ((e_ n.j9 k).frm).toNat (⟨M,E,((e_ rs<|(e_ n.j9 k).frm).xs++([((hs.length:Nat):Int)]:List Int))⟩:Row)).length=rs.length:=Gd
  have bz:e_ (List.set rs ((e_ n.j9 k).frm).toNat (⟨M,E,((e_ rs<|(e_ n.j9 k).frm).xs++([((hs.length:Nat):Int)]:List Int))⟩:Row)) (e_ n.j9 k).dst=e_ rs (e_ n.j9 k).dst:=by rw [Dq rs _ _ _ hb.1.1 hb.2.1.1 om,An hb.2.2.1]
  have cc:(e_ (List.set rs ((e_ n.j9 k).frm).toNat (⟨M,E,((e_ rs<|(e_ n.j9 k).frm).xs++([((hs.length:Nat):Int)]:List Int))⟩:Row)) (e_ n.j9 k).dst).xs.length<=2*k:=by rw [bz];exact bp
  refine Df kr<|Z ?_
  refine A8 mixed<|Cf (vc 3 (.slice aj 1 1) (([((hs.length:Nat):Int)]:List Int))::e8 aq [e7 ((e_ n.j9 k).frm),e7<|(e_ n.j9 k).dst,e7<|(e_ n.j9 k).cap] 305::vq 336 ah ch hs::e8 b [.slice ah hs.length ch,.slice ao (replicate n.nodes.toNat (default:Row)).length co,.slice al (replicate n.nodes.toNat (default:Int)).length cl,.slice an (replicate n.nodes.toNat (default:Int)).length cn,e7<|n.sink] 339::vc 22 (.slice ao (replicate n.nodes.toNat (default:Row)).length co) (List.set rs ((e_ n.j9 k).frm).toNat (⟨M,E,((e_ rs<|(e_ n.j9 k).frm).xs++([((hs.length:Nat):Int)]:List Int))⟩:Row))::vq 3 al cl (replicate n.nodes.toNat (default:Int))::vq 3 an cn (replicate n.nodes.toNat (default:Int))::e8 b1 [e7 (n.nodes),e7<|n.source,e7<|n.sink,v] 303::I) 23<|Z ?_
  refine Ds1 20<|Se1 C (Bt (α:=Int) (cs:=[_]) (xs:=[((hs.length:Nat):Int)+1]) Ab ef C C dc dc C C C C) λba=>?_
  refine Ds1 21<|Se2 C (Bv (α:=Int) (e:=3) (xs:=(e_ (List.set rs ((e_ n.j9 k).frm).toNat (⟨M,E,((e_ rs<|(e_ n.j9 k).frm).xs++([((hs.length:Nat):Int)]:List Int))⟩:Row))<|(e_ n.j9 k).dst).xs) (ys:=([((hs.length:Nat):Int)+1]:List Int)) Ab ef C C C (by repeat (first|exact bf2 (rs:=(List.set rs ((e_ n.j9 k).frm).toNat (⟨M,E,((e_ rs<|(e_ n.j9 k).frm).xs++([((hs.length:Nat):Int)]:List Int))⟩:Row))) (i:=((e_ n.j9 k).dst)) om om|apply Fv)) A6 lcn dc C<|λ_ _=>(by repeat (first|exact At.rows (rs:=(List.set rs ((e_ n.j9 k).frm).toNat (⟨M,E,((e_ rs<|(e_ n.j9 k).frm).xs++([((hs.length:Nat):Int)]:List Int))⟩:Row))) (i:=((e_ n.j9 k).dst)) om om|apply At.tail))) λab ad=>Z ?_
  refine De kr ?_
  refine Ae 23 C (Cr (α:=Row) (xs:=List.set rs ((e_ n.j9 k).frm).toNat (⟨M,E,((e_ rs<|(e_ n.j9 k).frm).xs++([((hs.length:Nat):Int)]:List Int))⟩:Row)) (e:=22) (new:=(⟨ab,ad,((e_ (List.set rs ((e_ n.j9 k).frm).toNat (⟨M,E,((e_ rs<|(e_ n.j9 k).frm).xs++([((hs.length:Nat):Int)]:List Int))⟩:Row))<|(e_ n.j9 k).dst).xs++([((hs.length:Nat):Int)+1]:List Int))⟩:Row)) ab3 C C C om om am) ?_
  rintro _ _ ⟨rfl,rfl⟩
  refine Df kr<|Z ?_
  refine A8 mixed<|Cf (vc 3 (.slice ba 1 1) (([((hs.length:Nat):Int)+1]:List Int))::vc 3 (.slice aj 1 1) (([((hs.length:Nat):Int)]:List Int))::e8 aq [e7 ((e_ n.j9 k).frm),e7<|(e_ n.j9 k).dst,e7<|(e_ n.j9 k).cap] 305::e8 b [.slice ah hs.length ch,.slice ao (replicate n.nodes.toNat (default:Row)).length co,.slice al (replicate n.nodes.toNat (default:Int)).length cl,.slice an (replicate n.nodes.toNat (default:Int)).length cn,e7<|n.sink] 339::vc 22 (.slice ao (replicate n.nodes.toNat (default:Row)).length co) (List.set (List.set rs ((e_ n.j9 k).frm).toNat (⟨M,E,((e_ rs<|(e_ n.j9 k).frm).xs++([((hs.length:Nat):Int)]:List Int))⟩:Row)) ((e_ n.j9 k).dst).toNat (⟨ab,ad,((e_ (List.set rs ((e_ n.j9 k).frm).toNat (⟨M,E,((e_ rs<|(e_ n.j9 k).frm).xs++([((hs.length:Nat):Int)]:List Int))⟩:Row))<|(e_ n.j9 k).dst).xs++([((hs.length:Nat):Int)+1]:List Int))⟩:Row))::vq 3 al cl (replicate n.nodes.toNat (default:Int))::vq 3 an cn (replicate n.nodes.toNat (default:Int))::e8 b1 [e7 (n.nodes),e7<|n.source,e7<|n.sink,v] 303::(af0 (List.set (List.set rs ((e_ n.j9 k).frm).toNat (⟨M,E,((e_ rs<|(e_ n.j9 k).frm).xs++([((hs.length:Nat):Int)]:List Int))⟩:Row)) ((e_ n.j9 k).dst).toNat (⟨ab,ad,((e_ (List.set rs ((e_ n.j9 k).frm).toNat (⟨M,E,((e_ rs<|(e_ n.j9 k).frm).xs++([((hs.length:Nat):Int)]:List Int))⟩:Row))<|(e_ n.j9 k).dst).xs++([((hs.length:Nat):Int)+1]:List Int))⟩:Row))++I)) 19<|Z ?_
  refine Ds1 15<|Se1 C (Bt (α:=V9) (cs:=[e7 ((e_ n.j9 k).frm),e7<|(e_ n.j9 k).dst,e7<|(e_ n.j9 k).cap,e7<|(e_ n.j9 k).cap,e7<|(e_ n.j9 k).dst,e7<|(e_ n.j9 k).frm,e7 0,e7 0]) (xs:=[⟨(e_ n.j9 k).frm,(e_ n.j9 k).dst,(e_ n.j9 k).cap,(e_ n.j9 k).cap⟩,⟨(e_ n.j9 k).dst,(e_ n.j9 k).frm,0,0⟩]) Ck ae6 C C dc dc C kr C C) λb4=>?_
  refine Ds1 16<|Se2 C (Bv (α:=V9) (e:=336) (xs:=hs) (ys:=([⟨(e_ n.j9 k).frm,(e_ n.j9 k).dst,(e_ n.j9 k).cap,(e_ n.j9 k).cap⟩,⟨(e_ n.j9 k).dst,(e_ n.j9 k).frm,0,0⟩]:List V9)) Ck ae6 C C C mm A6 lcn dc C<|λ_ _=>am) λbf a1=>?_
  refine Ds1 17<|Sr C (Bw C) Ar<|Z ?_
  refine De kr ?_
  refine Ae 19 C (Eff.st (cs:=[_,_,_,_,_]) (vs:=[_]) (cs':=[_,_,_,_,_]) bm2) ?_
  rintro _ _ ⟨rfl,rfl⟩
  refine Df kr<|Z ?_
  exact Bh ((k+1),(bf),(a1),(hs++([⟨(e_ n.j9 k).frm,(e_ n.j9 k).dst,(e_ n.j9 k).cap,(e_ n.j9 k).cap⟩,⟨(e_ n.j9 k).dst,(e_ n.j9 k).frm,0,0⟩]:List V9)),(List.set (List.set rs ((e_ n.j9 k).frm).toNat (⟨M,E,((e_ rs<|(e_ n.j9 k).frm).xs++([((hs.length:Nat):Int)]:List Int))⟩:Row)) ((e_ n.j9 k).dst).toNat (⟨ab,ad,((e_ (List.set rs ((e_ n.j9 k).frm).toNat (⟨M,E,((e_ rs<|(e_ n.j9 k).frm).xs++([((hs.length:Nat):Int)]:List Int))⟩:Row))<|(e_ n.j9 k).dst).xs++([((hs.length:Nat):Int)+1]:List Int))⟩:Row)))<|by dsimp only;exact ⟨om,(hO.step aa om _ _ _ _ om om C C)⟩
 have bg:=hO.done aa om
 exact Ak C C (e8 b [.slice ah hs.length ch,.slice ao (replicate n.nodes.toNat (default:Row)).length co,.slice al (replicate n.nodes.toNat (default:Int)).length cl,.slice an (replicate n.nodes.toNat (default:Int)).length cn,e7<|n.sink] 339::vq 336 ah ch hs::vq 3 al cl (replicate n.nodes.toNat (default:Int))::vq 3 an cn (replicate n.nodes.toNat (default:Int))::vc 22 (.slice ao (replicate n.nodes.toNat (default:Row)).length co) (rs)::(af0 rs++I)) Bi ⟨_,_,_,_,_,hs,rs,(replicate n.nodes.toNat (default:Int)),(replicate n.nodes.toNat (default:Int)),rfl,⟨bg.1,bg.2,by rw [Fw];omega,by rw [Fw];omega⟩,rfl⟩
end Go.Sl
namespace Go.Sl
open Go.Proofs
set_option maxRecDepth 4000
end Go.Sl
namespace Go.Sl
open Go.Proofs
set_option maxRecDepth 4000
attribute [local irreducible] W G V D A j0 Eff
theorem fb0{κ:Ctx}{I:List Item}{n:Net}{v:Value}(hl:Sl κ I v n.j9)(M:n.Ok):er prog κ 317 [.agg #[e7 (n.nodes),e7 (n.source),e7 (n.sink),v]] I (λr J=>∃(b:Nat) (hw E lw nw:Value) (f:List Int) (hs:List V9) (rs:List Row) (L nx:List Int) (val:Int),r = .tuple #[(pt b),e7 val]/\(Full n f val/\HOk n f hs/\ROk n (K7 rs))/\J=e8 b [hw,E,lw,nw,e7 (n.sink)] 339::vc 336 hw (hs)::vc 3 lw (L)::vc 3 nw (nx)::(vc 22 E rs::(af0 rs++I))):=by
 refine Ce1 Tryz.func317 C C ?_
 refine Aj<|Ge1 (Ay (cs:=[_,_,_,_]) C C C) λb1=>Z ?_
 refine G.e (Ac c_ C C<|gd0 (n:=n) (Bc hl) M) ?_
 rintro _ _ ⟨_,_,⟨b,hw,E,lw,nw,hs,rs,L,nx,rfl,⟨hh,hr,hL,hN⟩,rfl⟩,rfl,rfl⟩
 refine Fo (J:=e8 b [hw,E,lw,nw,e7<|n.sink] 339::vc 336 hw (hs)::vc 3 lw (L)::vc 3 nw (nx)::vc 22 E (rs)::e8 b1 [e7 (n.nodes),e7<|n.source,e7<|n.sink,v] 303::(af0 rs++I)) Bi<|Z ?_
 refine G.e (Ac c_ C C<|cr5 (n:=n) M hh hr A6 (λi h0 h=>Bs (cu4 i h0 h) Af) hL hN (bh3 n M).1 (bh3 n M).2) ?_
 rintro _ _ ⟨_,_,⟨val,f,ad,L2,ab,rfl,⟨aa,ae⟩,rfl⟩,rfl,rfl⟩
 refine Z ?_
 exact B5 C C C (e8 b [hw,E,lw,nw,e7<|n.sink] 339::vc 336 hw (ad)::vc 3 lw (L2)::vc 3 nw (ab)::vc 22 E (rs)::(af0 rs++I)) Bi ⟨b,hw,E,lw,nw,f,ad,rs,L2,ab,val,rfl,⟨aa,ae,hr⟩,rfl⟩
end Go.Sl
namespace Go.Sl
variable{E M a b c d0 d1 d2 m1 n n4 n5 n6 u:Nat}
def W6:List Nat->Nat
 |[]=>0
 |b::bs=>2 ^ 8*W6 bs+b
theorem bi9{d:Nat}(E:b<2 ^ 8)(M:d<2 ^ 8):(2 ^ 8*a+b) &&& (2 ^ 8*c+d)=2 ^ 8*(a &&& c)+(b &&& d):=by
 refine Nat.eq_of_testBit_eq λj=>?_
 rw [Nat.testBit_and,Kg _ E,Kg _ M,Kg _<|Nat.and_lt_two_pow _ M]
 by_cases h:j<8
 ·rw [By h,By h,By h,Nat.testBit_and]
 rw [An h,An h,An h,Nat.testBit_and]
def cn0(c:Nat)(k:Nat):Nat:=W6 (replicate k c)
theorem as2(c k:Nat):cn0 c (k+1)=2 ^ 8*cn0 c k+c:=rfl
def p1(b:Nat):Nat:=((b / 2) &&& 85)+(b &&& 85)
def p2(b:Nat):Nat:=((b / 4) &&& 51)+(b &&& 51)
def p3(b:Nat):Nat:=(b / 16+b) % 16
theorem c1:∀t:Fin 2,∀x:Fin 128,(128*t.val+x.val) &&& 85=x.val &&& 85:=by decide+kernel
theorem c2:∀t:Fin 4,∀x:Fin 64,(64*t.val+x.val) &&& 51=x.val &&& 51:=by decide+kernel
theorem b1:∀b:Fin 256,p1 b.val<256/\p2 (p1 b.val) % 16<=4/\p2 (p1 b.val) / 16<=4/\p3 (p2 (p1 b.val))<=8/\p3 (p2 (p1 b.val))=((List.range 8).filter λj=>b.val.testBit j).length:=by decide+kernel
theorem gg1:∀bs:List Nat,(∀b∈bs,b<256)->((W6 bs / 2) &&& cn0 85 bs.length)+(W6 bs &&& cn0 85 bs.length)=W6 (bs.map p1)
 |[],_=>rfl
 |b::bs,h=>by
  have hb:=h b C_
  have ih:=gg1 bs λx E=>h x (Fv _ E)
  rw [Fu,as2,Kc]
  simp only [W6]
  have e:(2 ^ 8*W6 bs+b) / 2=2 ^ 8*(W6 bs / 2)+(128*(W6 bs % 2)+b / 2):=by omega
  have M:=c1 ⟨W6 bs % 2,by omega⟩ ⟨b / 2,by omega⟩
  simp only at M
  rw [e,bi9 (by omega)<|by decide,bi9 (by omega)<|by decide,M]
  rw [show p1 b=(b / 2 &&& 85)+(b &&& 85) from rfl]
  omega
theorem gg0:∀bs:List Nat,(∀b∈bs,b<256)->((W6 bs / 4) &&& cn0 51 bs.length)+(W6 bs &&& cn0 51 bs.length)=W6 (bs.map p2)
 |[],_=>rfl
 |b::bs,h=>by
  have hb:=h b C_
  have ih:=gg0 bs λx E=>h x (Fv _ E)
  rw [Fu,as2,Kc]
  simp only [W6]
  have e:(2 ^ 8*W6 bs+b) / 4=2 ^ 8*(W6 bs / 4)+(64*(W6 bs % 4)+b / 4):=by omega
  have M:=c2 ⟨W6 bs % 4,by omega⟩ ⟨b / 4,by omega⟩
  simp only at M
  rw [e,bi9 (by omega)<|by decide,bi9 (by omega)<|by decide,M]
  rw [show p2 b=(b / 4 &&& 51)+(b &&& 51) from rfl]
  omega
theorem gf9:∀bs:List Nat,(∀b∈bs,b % 16<=4/\b / 16<=4)->(W6 bs / 16+W6 bs) &&& cn0 15 bs.length=W6 (bs.map p3)
 |[],_=>rfl
 |b::bs,h=>by
  have hb:=h b C_
  have E:=gf9 bs λx M=>h x (Fv _ M)
  have hn:W6 bs % 16<=4:=by
   cases bs with
   |nil=>simp [W6]
   |cons c cs=>
    have:=(h c<|Fv _ C_).1
    simp only [W6];omega
  rw [Fu,as2,Kc]
  simp only [W6]
  have e:(2 ^ 8*W6 bs+b) / 16+(2 ^ 8*W6 bs+b)=2 ^ 8*(W6 bs / 16+W6 bs)+(16*(W6 bs % 16)+b / 16+b):=by omega
  rw [e,bi9 (by omega)<|by decide,E,show (15:Nat)=2 ^ 4 - 1 by decide,Mo]
  rw [show p3 b=(b / 16+b) % 16 from rfl]
  omega
def bi5(n:Nat):Nat->List Nat
 |0=>[]
 |k+1=>n % 256::bi5 (n / 256) k
theorem dh9(n k:Nat):(bi5 n k).length=k:=by
 induction k generalizing n with
 |zero=>rfl
 |succ k ih=>simp [bi5,ih]
theorem dy9(n k:Nat):∀b∈bi5 n k,b<256:=by
 induction k generalizing n with
 |zero=>intro b hb;cases hb
 |succ k ih=>
  intro b hb
  rcases Gh.1 hb with rfl|hb
  ·omega
  exact ih _ b hb
theorem br5:∀(k n:Nat),n<256 ^ k->W6 (bi5 n k)=n
 |0,n,h=>by simp at h;subst h;rfl
 |k+1,n,h=>by
  rw [Nat.pow_succ] at h
  simp only [bi5,W6]
  rw [br5 k (n / 256) (by omega)]
  omega
def dc8:List Nat->Nat
 |[]=>0
 |b::bs=>b+dc8 bs
theorem dy2:∀bs:List Nat,(∀b∈bs,b<256)->((List.range (8*bs.length)).filter λj=>(W6 bs).testBit j).length=dc8 (bs.map λb=>p3 (p2 (p1 b)))
 |[],_=>rfl
 |b::bs,h=>by
  have M:=h b C_
  have ih:=dy2 bs λx E=>h x (Fv _ E)
  rw [Fu,show 8*(bs.length+1)=8+8*bs.length by omega,List.range_add,Hc,A_,Kc]
  simp only [dc8,W6]
  rw [←ih,(b1 ⟨b,M⟩).2.2.2.2,List.filter_map,Gi]
  congr 2
  ·refine Jd λj hj=>?_
   rw [Kg _ M,By<|Ht.1 hj]
  refine Jd λj hj=>?_
  show (2 ^ 8*W6 bs+b).testBit (8+j)=_
  rw [Kg _ M,An<|by omega,Jj]
theorem gt4(h0:d0<=8)(h1:d1<=8)(h2:d2<=8)(en:n=d0+256*d1+65536*E)(e1:m1=d1+256*d2+65536*M)(h4:n4=n+m1) :
  n4=(d0+d1)+256*(d1+d2)+65536*(E+M)/\n4 / 65536=E+M:=by omega
theorem gt3(ha:a<=16)(hb:b<=16)(E:c<65536)(h4:n4=a+256*b+65536*(c+65536*u))(M:n5=n4+(c+65536*u)):n5=a+256*b+c+65536*(c+u)+4294967296*u:=by omega
theorem gt2{x s t:Nat}(hx:x<65536)(M:c<=5000)(hs:s<=5000)(E:u=s+65536*t)(h5:n5=x+65536*(c+u)+4294967296*u):n5 / 4294967296=u+t:=by omega
theorem fm0{d5 d6 d7 m2 m3 m4 m5 m6:Nat}(h0:d0<=8)(h1:d1<=8)(h2:d2<=8)(h3:M<=8)(h4:E<=8)(h5:d5<=8)(h6:d6<=8)(h7:d7<=8)
  (e6:m6=d6+256*d7) (e5:m5=d5+256*d6+65536*d7) (e4:m4=E+256*d5+65536*m6) (e3:m3=M+256*E+65536*m5) (e2:m2=d2+256*M+65536*m4) (e1:m1=d1+256*d2+65536*m3) (e0:n=d0+256*d1+65536*m2)
  (g4:n4=n+m1) (g5:n5=n4+n4 / 65536) (g6:n6=n5+n5 / 4294967296):n6 % 128=d0+d1+d2+M+E+d5+d6+d7:=by
 obtain ⟨a1,a2⟩:=gt4 h0 h1 h2 e0 e1 g4
 have hc:m2+m3=((d2+M)+256*(M+E))+65536*(m4+m5):=by clear e0 e1 e4 e5 e6 g4 g5 g6 a1 a2;omega
 have hu:m4+m5=((E+d5)+256*(d5+d6))+65536*(m6+d7):=by clear e0 e1 e2 e3 e6 g4 g5 g6 a1 a2 hc;omega
 rw [a2,hc] at g5
 rw [hc] at a1
 have b1:=gt3 (by omega) (by omega) (by omega) a1 g5
 have b2:=gt2 (x:=d0+d1+256*(d1+d2)+((d2+M)+256*(M+E))) (by omega) (by omega) (by omega) hu b1
 rw [b2] at g6
 clear b2 a2 hc e0 e1 e2 e3 e4 e5 g4 g5 a1
 omega
theorem fm1{bs:List Nat}(hl:bs.length=8)(E:∀b∈bs,b<=8)(hn:n=W6 bs)(M:n4=n+n / 256)(g5:n5=n4+n4 / 65536)(g6:n6=n5+n5 / 4294967296):n6 % 128=dc8 bs/\n6<18446744073709551616:=by
 match bs,hl with
 |[d0,d1,d2,d3,d4,d5,d6,d7],_=>
  have k0:=E d0 (by simp)
  have k1:=E d1 (by simp)
  have k2:=E d2 (by simp)
  have k3:=E d3 (by simp)
  have k4:=E d4 (by simp)
  have k5:=E d5 (by simp)
  have k6:=E d6 (by simp)
  have k7:=E d7 (by simp)
  obtain ⟨m6,e6⟩:∃m6,m6=d6+256*d7:=⟨_,rfl⟩
  obtain ⟨m5,e5⟩:∃m5,m5=d5+256*d6+65536*d7:=⟨_,rfl⟩
  obtain ⟨m4,e4⟩:∃m4,m4=d4+256*d5+65536*m6:=⟨_,rfl⟩
  obtain ⟨m3,e3⟩:∃m3,m3=d3+256*d4+65536*m5:=⟨_,rfl⟩
  obtain ⟨m2,e2⟩:∃m2,m2=d2+256*d3+65536*m4:=⟨_,rfl⟩
  obtain ⟨m1,e1⟩:∃m1,m1=d1+256*d2+65536*m3:=⟨_,rfl⟩
  have e0:n=d0+256*d1+65536*m2:=by rw [hn];simp only [W6];omega
  have ed:n / 256=m1:=by
   have:n=d0+256*m1:=by clear M g5 g6;rw [hn];simp only [W6];omega
   clear e0 e1 e2 e3 e4 e5 e6 M g5 g6 hn
   omega
  rw [ed] at M
  refine ⟨?_,?_⟩
  ·rw [fm0 k0 k1 k2 k3 k4 k5 k6 k7 e6 e5 e4 e3 e2 e1 e0 M g5 g6];simp only [dc8];omega
  have q6:m6<=2056:=by omega
  have q5:m5<=526344:=by omega
  have q4:m4<=134744072:=by clear M g5 g6 hn e0 e1 e2 e3 ed;omega
  have q3:m3<=34494482440:=by clear M g5 g6 hn e0 e1 e2 e4 ed;omega
  have q2:m2<=8830587504648:=by clear M g5 g6 hn e0 e1 e3 e4 e5 e6 ed;omega
  have q1:m1<=2260630401189896:=by clear M g5 g6 hn e0 e2 e4 e5 e6 ed;omega
  have q0:n<=578721382704613384:=by clear M g5 g6 hn e1 e3 e4 e5 e6 ed;omega
  clear e0 e1 e2 e3 e4 e5 e6 hn ed
  omega
theorem bt5:∀bs:List Nat,(∀b∈bs,b<=c)->W6 bs<=cn0 c bs.length
 |[],_=>Gk _
 |b::bs,h=>by
  have ih:=bt5 bs λx M=>h x (Fv _ M)
  have E:=h b C_
  rw [Fu,as2]
  simp only [W6]
  omega
end Go.Sl
namespace Go.Sl
open Go.Proofs
set_option maxRecDepth 4000
variable{m:BitVec 64}{bs:List Nat}{xs ys:List Int}{x:Int}
variable {κ:Ctx}{I:List Item}
attribute [local irreducible] W G V D A j0 Eff
theorem fe9(m:BitVec 64):0<=az3.getD (dn9 m) 0/\az3.getD (dn9 m) 0<=64:=by
 have h:∀k:Fin 64,0<=az3.getD k.val 0/\az3.getD k.val 0<=64:=by decide+kernel
 exact h ⟨dn9 m,cm6 m⟩
theorem gn3(m:BitVec 64)(E:P6 κ I 0 F3):er prog κ 234 [U64 m] I (λr J=>r=e7 (tzB m)/\I=J):=by
 refine Ce1 Tryz.func234 C C ?_
 refine Aj<|Ga C<|Aq<|Ax<|Aj<|Gm C<|Gr (j0.eqB (a:=m) (b:=0#64) C C)<|Aq<|Am C (λM=>?_)<|λM=>?_
 ·exact Aj<|Ga C<|Aq<|Bq<|Az<|Ak C C I Af ⟨by unfold tzB;rw [By M],rfl⟩
 exact A4<|Al<|Aj<|Gm C<|Gm C<|Gr (j0.negB (a:=m) C)<|Gr (C4 (a:=m) (b:= -m) C C)<|Gr (j0.mulB (a:=m &&& (-m)) (b:=285870213051353865#64) C C)<|Gr (Fg (a:=(m &&& (-m))*285870213051353865#64) C C om om)<|Gr (j0.fz4 (i:=dn9 m) Tryz.underlying310 ty5 C C<|cm6 m)<|Gr (j0.fy5 ty5 C (Cb E Af)<|dc5 m)<|Gr (j0.dx9 Fe A7 C<|by unfold InR;have:=fe9 m;omega)<|Ga C<|Aq<|A0 (S1 2)<|Bq<|Ak C C I Af ⟨by unfold tzB;rw [An M],rfl⟩
theorem db3(m:BitVec 64)(M:P6 κ I 0 F3):er prog κ 238 [U64 m] I (λr J=>r=e7 (tzB m)/\I=J):=by
 refine Ce1 Tryz.func238 C C<|Z ?_
 refine G.e (Ac c_ C C<|gn3 m<|Cb M Af) ?_
 rintro _ _ ⟨_,_,⟨rfl,rfl⟩,rfl,rfl⟩
 exact Ga C<|Aq<|Bq<|Ak C C I Af ⟨rfl,rfl⟩
theorem au5(m:BitVec 64)(hT:P6 κ I 0 F3):er prog κ 171 [U64 m] I (λr J=>∃a c,r = .slice a (em m).length c/\J=vq 3 a c (em m)::I):=by
 refine Ce1 Tryz.func171 C C<|Z ?_
 refine Dl (σ:=(BitVec 64)×(Option Addr)×Nat×(List Int)) (λs=>[(0,U64<|s.1),(3,.slice s.2.1 s.2.2.2.length s.2.2.1)]) (λs=>[vq 3 s.2.1 s.2.2.1 s.2.2.2]) (λs=>(em m=s.2.2.2++em s.1)) (λs=>(em s.1).length) (m,none,0,[]) C (hI:=(Bb _ _)) ?_
 rintro ⟨n,a,c,out⟩ hp
 dsimp only at hp ⊢
 have ho:=hp
 have E:=Fz List.length ho
 rw [A_] at E
 have ah:=Ee m
 refine Ax<|Aj<|Gm C<|Gr (E3 (a:=n) (b:=0#64) C C)<|Aq<|Am C (λM=>Z ?_)<|λM=>Z ?_
 ·refine G.e (Ac c_ C C<|gn3 n<|Cb hT Af) ?_
  rintro _ _ ⟨_,_,⟨rfl,rfl⟩,rfl,rfl⟩
  refine Ge1 (Bt (α:=Int) (cs:=[_]) (xs:=[tzB n]) Ab ef C C dc dc C C C C) λae=>?_
  refine Ge2 (Bv (α:=Int) (e:=3) (xs:=out) (ys:=([tzB n]:List Int)) Ab ef C C C mm A6 lcn dc C<|λ_ _=>am) λab aa=>Z ?_
  exact Gr (j0.gr1 (a:=n) (b:=1#64) C C)<|Gr (C4 (a:=n) (b:=n - (1#64)) C C)<|Ga C<|Bl<|Bh ((n &&& (n - (1#64))),(ab),(aa),(out++([tzB n]:List Int))) (by dsimp only;exact (by rw [ho,Q9 M,H1];rfl)) (hlt:=by (try dsimp only);exact (df2 M))
 have ad:n=0#64:=B_.1 M
 have hE:out=em m:=by rw [ho,ad,C5,Hq]
 subst hE
 exact Ak C C (vq 3 a c (em m)::I) Ar ⟨a,c,rfl,rfl⟩
theorem dr0(hl:bs.length=8)(E:∀b∈bs,b<256)(hm:m.toNat=W6 bs):(fh5 m).toNat=W6 (bs.map p1):=by
 unfold fh5
 have M:W6 (bs.map p1)<=cn0 255 8:=by
  have:=bt5 (c:=255) (bs.map p1) λb h=>by obtain ⟨x,hx,rfl⟩:=Ha.1 h;have:=(b1 ⟨x,E x hx⟩).1;simp only at this;omega
  rwa [Gi,hl] at this
 rw [J_,Ja,Ja,Hh,Hj,show 2 ^ (1:Int).toNat=2 from rfl,hm,show (6148914691236517205#64).toNat=cn0 85 bs.length by rw [hl];decide+kernel,gg1 bs E]
 exact Kl<|Nat.lt_of_le_of_lt M<|by decide+kernel
theorem dq9(hl:bs.length=8)(E:∀b∈bs,b<256/\p2 b<256)(hm:m.toNat=W6 bs):(fh4 m).toNat=W6 (bs.map p2):=by
 unfold fh4
 have M:W6 (bs.map p2)<=cn0 255 8:=by
  have:=bt5 (c:=255) (bs.map p2) λb h=>by obtain ⟨x,hx,rfl⟩:=Ha.1 h;have:=(E x hx).2;omega
  rwa [Gi,hl] at this
 rw [J_,Ja,Ja,Hh,Hj,show 2 ^ (2:Int).toNat=4 from rfl,hm,show (3689348814741910323#64).toNat=cn0 51 bs.length by rw [hl];decide+kernel,gg0 bs λb h=>(E b h).1]
 exact Kl<|Nat.lt_of_le_of_lt M<|by decide+kernel
theorem dq8(E:bs.length=8)(M:∀b∈bs,b % 16<=4/\b / 16<=4)(hm:m.toNat=W6 bs):(cc9 m).toNat=W6 (bs.map p3):=by
 unfold cc9
 have aa:W6 bs<=cn0 68 8:=by
  have:=bt5 (c:=68) bs λb h=>by have:=M b h;omega
  rwa [E] at this
 have hr:cn0 68 8=4919131752989213764:=by decide+kernel
 rw [Ja,J_,Hh,Hj,show 2 ^ (4:Int).toNat=16 from rfl,hm,show (1085102592571150095#64).toNat=cn0 15 bs.length by rw [E];decide+kernel,Kl om,gf9 bs M]
theorem cv5(m:BitVec 64):X4 m=((em m).length:Int):=by
 unfold X4
 have E:=dh9 m.toNat 8
 have hlt:=dy9 m.toNat 8
 have hv:=br5 8 m.toNat (Nb m.isLt dc)
 generalize bi5 m.toNat 8=bs at E hlt hv
 have hb:=λb (h:b∈bs)=>b1 ⟨b,hlt b h⟩
 have e1:=dr0 E hlt hv.symm
 have e2:=dq9 (bs:=bs.map p1) (by rw [Gi,E]) (λb h=>by obtain ⟨x,hx,rfl⟩:=Ha.1 h;have:=hb x hx;simp only at this;exact ⟨this.1,by omega⟩) e1
 have e3:=dq8 (bs:=(bs.map p1).map p2) (by rw [Gi,Gi,E]) (λb h=>by obtain ⟨y,hy,rfl⟩:=Ha.1 h;obtain ⟨x,hx,rfl⟩:=Ha.1 hy;have:=hb x hx;simp only at this;exact ⟨this.2.1,this.2.2.1⟩) e2
 generalize cc9 (fh4<|fh5 m)=a at e3
 have hc:W6 bs=m.toNat:=hv
 have M:=dy2 bs hlt
 obtain ⟨f1,f2⟩:=fm1 (n:=a.toNat) (n4:=a.toNat+a.toNat / 256) (n5:=a.toNat+a.toNat / 256+(a.toNat+a.toNat / 256) / 65536) (n6:=a.toNat+a.toNat / 256+(a.toNat+a.toNat / 256) / 65536+(a.toNat+a.toNat / 256+(a.toNat+a.toNat / 256) / 65536) / 4294967296)
  (bs:=((bs.map p1).map p2).map p3) (by rw [Gi,Gi,Gi,E]) (λb h=>by obtain ⟨z,hz,rfl⟩:=Ha.1 h;obtain ⟨y,hy,rfl⟩:=Ha.1 hz;obtain ⟨x,hx,rfl⟩:=Ha.1 hy;have:=hb x hx;simp only at this;exact this.2.2.2.1) e3 rfl rfl rfl
 have g4:(bv1 a).toNat=a.toNat+a.toNat / 256:=by
  unfold bv1;rw [J_,Hh,Hj,show 2 ^ (8:Int).toNat=256 from rfl];exact Kl om
 have g5:(cc8<|bv1 a).toNat=a.toNat+a.toNat / 256+(a.toNat+a.toNat / 256) / 65536:=by
  unfold cc8;rw [J_,Hh,Hj,show 2 ^ (16:Int).toNat=65536 from rfl,g4];exact Kl om
 have g6:(de2<|cc8<|bv1 a).toNat=a.toNat+a.toNat / 256+(a.toNat+a.toNat / 256) / 65536+(a.toNat+a.toNat / 256+(a.toNat+a.toNat / 256) / 65536) / 4294967296:=by
  unfold de2;rw [J_,Hh,Hj,show 2 ^ (32:Int).toNat=4294967296 from rfl,g5];exact Kl om
 have hL:(em m).length=dc8 (((bs.map p1).map p2).map p3):=by
  unfold em ah7
  rw [Gi,List.map_map,List.map_map,show (λi=>m.getLsbD i)=λj=>(W6 bs).testBit j from by funext j;rw [hc];rfl]
  rw [E] at M
  exact M
 rw [g6,hL,←f1]
 omega
variable {κ:Ctx}{I:List Item}
def N5(xs ys:List Int):List Int:=(ofL xs).filter λx=>decide (x∈ys)
theorem P4:x∈N5 xs ys↔x∈xs/\x∈ys:=by simp [N5,af4]
def K4(n:Int):List Int:=(List.range (min n 64).toNat).map λj:Nat=>(j:Int)
theorem U2{n:Int}:x∈K4 n↔0<=x/\x<n/\x<64:=by
 unfold K4
 rw [Ha]
 constructor
 ·rintro ⟨j,hj,rfl⟩;rw [Ht] at hj;omega
 rintro ⟨E,M,h3⟩;exact ⟨x.toNat,by rw [Ht];omega,by omega⟩
theorem df8{nd:Int}{es:List Pt}{set:List Int}(h:G8 nd es):M9 nd es set=(es.filter λe=>decide (e.u∈set/\e.v∈set)).length:=by
 unfold M9;rw [An (by rw [j6.2 h];decide),bp5 set h]
theorem bk1{u v:Value}(hu:Sl κ I u xs)(hv:Sl κ I v ys)(hb:xs.length<17592186044415):er prog κ 134 [u,v] I (λr J=>∃a c,r = .slice a (N5 xs ys).length c/\J=vq 3 a c (N5 xs ys)::I):=by
 have ae:=ap5 xs
 refine Ce2 Tryz.func134 C C<|Z ?_
 refine Gc2 (Ac c_ C C<|cq8 (Bc hu) om) λaj ai=>Z ?_
 refine Dl (σ:=Nat×(Option Addr)×Nat×(List Int)) (λs=>[(5,.slice s.2.1 s.2.2.2.length s.2.2.1),(11,e7 ((s.1:Nat):Int))]) (λs=>[vq 3 s.2.1 s.2.2.1 s.2.2.2]) (λs=>(s.1<=(ofL xs).length)/\(s.2.2.2=((ofL xs).take s.1).filter (λx=>decide<|x∈ys))) (λs=>(ofL xs).length - s.1) (0,none,0,[]) ⟨om,rfl⟩ (hI:=(Bb _ _)) ?_
 rintro ⟨k,a,c,out⟩ hp
 dsimp only at hp ⊢
 obtain ⟨hk,ho⟩:=hp
 refine Z ?_
 refine Am C (λc12=>Z ?_)<|λc12=>Z ?_
 ·refine Gc0 (Ac c_ C C<|ag7 (Bc hv)<|e_ (ofL xs) k) ?_
  refine Aq<|Am C (λM=>Z ?_)<|λM=>Z ?_
  ·refine Ge1 (Bt (α:=Int) (cs:=[_]) (xs:=[e_ (ofL xs) k]) Ab ef C C dc dc C C C C) λah=>?_
   refine Ge2 (Bv (α:=Int) (e:=3) (xs:=out) (ys:=([e_ (ofL xs) k]:List Int)) Ab ef C C C mm A6 (by have:=ap5 xs;simp only [Fu,F_];rw [ho];have:=aj7 (ofL xs) (λx=>decide<|x∈ys) k;omega) dc C<|λ_ _=>am) λaa E=>Z ?_
   exact Bh ((k+1),(aa),(E),(out++([e_ (ofL xs) k]:List Int)))<|by dsimp only;exact ⟨om,(by first|rw [aa3 _ _ k om (D_ M),←ho]|rw [aa5 _ _ k om (E_ M),←ho])⟩
  exact Bh ((k+1),(a),(c),(out))<|by dsimp only;exact ⟨om,(by first|rw [aa3 _ _ k om (D_ M),←ho]|rw [aa5 _ _ k om (E_ M),←ho])⟩
 have ad:(ofL xs).take k=ofL xs:=Gb om
 rw [ad] at ho
 have ab:out=N5 xs ys:=ho
 subst ab
 exact Ak C C (vq 3 a c (N5 xs ys)::I) Ar ⟨a,c,rfl,rfl⟩
theorem bz0(n:Int):er prog κ 135 [e7 n] I (λr J=>∃a c,r = .slice a (K4 n).length c/\J=vq 3 a c (K4 n)::I):=by
 refine Ce1 Tryz.func135 C C<|Z ?_
 refine Dl (σ:=Nat×(Option Addr)×Nat×(List Int)) (λs=>[(3,.slice s.2.1 s.2.2.2.length s.2.2.1),(4,e7 ((s.1:Nat):Int))]) (λs=>[vq 3 s.2.1 s.2.2.1 s.2.2.2]) (λs=>(s.1<=(min n 64).toNat)/\(s.2.2.2=(List.range s.1).map λj:Nat=>(j:Int))) (λs=>(min n 64).toNat - s.1) (0,none,0,[]) ⟨om,rfl⟩ (hI:=(Bb _ _)) ?_
 rintro ⟨k,a,c,out⟩ hp
 dsimp only at hp ⊢
 obtain ⟨hk,ho⟩:=hp
 have ab:out.length=k:=by rw [ho];simp
 refine Z ?_
 refine Au (d:=8) C (λg8=>Z ?_)<|λg8=>Z ?_
 ·refine Am C (λc11=>Z ?_) (λc11=>Z ?_)
  ·refine Ge1 (Bt (α:=Int) (cs:=[_]) (xs:=[(k:Int)]) Ab ef C C dc dc C C C C) λad=>?_
   refine Ge2 (Bv (α:=Int) (e:=3) (xs:=out) (ys:=([(k:Int)]:List Int)) Ab ef C C C mm A6 lcn dc C<|λ_ _=>am) λaa E=>Z ?_
   exact Bh ((k+1),(aa),(E),(out++([(k:Int)]:List Int)))<|by dsimp only;exact ⟨om,(by rw [Kj,Jb,←ho];rfl)⟩
  have M:out=K4 n:=by rw [ho];unfold K4;congr 2;omega
  subst M
  exact Ak C C (vq 3 a c (K4 n)::I) Ar ⟨a,c,rfl,rfl⟩
 have M:out=K4 n:=by rw [ho];unfold K4;congr 2;omega
 subst M
 exact Ak C C (vq 3 a c (K4 n)::I) Ar ⟨a,c,rfl,rfl⟩
end Go.Sl
