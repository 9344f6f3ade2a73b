/- A part of the proofs of statements of this seat: contracts of functions, and the plain laws that they lean on. No conditions. -/
import Derived.Test.YtfkcohmipjhfcaaGreatDoorF12
set_option linter.unusedVariables false
set_option linter.unusedSimpArgs false
set_option linter.unusedSectionVars false
namespace Go.Sl
open Go.Proofs
set_option maxRecDepth 4000
variable {κ:Ctx}{I:List Item}
theorem Push_ok{n:Net}{rs:List Row}{b:Nat}{hw ow lw nw:Value}{L:List Int}(hok:n.Ok)(hr:ROk n (rowsL rs))(ho:Sl κ I ow rs)(hrow:∀i:Int,0≤i→i<rs.length→Sl κ I (.slice (at_ rs i).a (at_ rs i).xs.length (at_ rs i).c) (at_ rs i).xs)(hL:(L.length:Int)=n.nodes)(hlow:∀z:Int,0≤z→z<n.nodes→ -1≤at_ L z∧at_ L z<n.nodes):∀(d:Nat) (lv:Int),n.nodes - lv≤d→PushC κ I n rs b hw ow lw nw L lv:=by
 intro d
 induction d with
 |zero=>
  intro lv hd v most f nx hs hlv h0 h1
  have:=(hlow v h0 h1).2
  omega
 |succ d ih=>
  intro lv hd v most f nx hs hlv h0 h1 h2 h3 h4 h5 h6 h7 h8
  exact Push_step hok hr ho hrow hL hlow (ih (lv+1) om) hlv h0 h1 h2 h3 h4 h5 h6 h7 h8
theorem Greatest_ok{n:Net}{f:List Int}{hs:List Half}{rs:List Row}{b:Nat}{hw ow lw nw:Value}{L nx:List Int}(hok:n.Ok)(hh:HOk n f hs)(hr:ROk n (rowsL rs))(ho:Sl κ I ow rs)(hrow:∀i:Int,0≤i→i<rs.length→Sl κ I (.slice (at_ rs i).a (at_ rs i).xs.length (at_ rs i).c) (at_ rs i).xs)(hL:(L.length:Int)=n.nodes)(hN:(nx.length:Int)=n.nodes)(hf:IsFlow n f)(hv0:netF n f n.source=0) :
    CallS Tryz.prog κ 336 [.pointer (some ⟨b,0,none⟩),I64 (n.source)] (blk b [hw,ow,lw,nw,I64 (n.sink)] 339::vc 336 (hw) (hs)::vc 3 (lw) (L)::vc 3 (nw) (nx)::I) (fun r J=>∃(val:Int) (f':List Int) (hs':List Half) (L' nx':List Int),r=I64 val∧(Full n f' val∧HOk n f' hs')∧J=blk b [hw,ow,lw,nw,I64 (n.sink)] 339::vc 336 (hw) (hs')::vc 3 (lw) (L')::vc 3 (nw) (nx')::I):=by
 have hlim:=hok.lim
 have hsrc:=hok.src
 have hsnk:=hok.snk
 refine Ce2 Tryz.func336 rfl rfl ?_
 refine Ah (Ga rfl (Af (Ah (Ga rfl (Af (Av (A5 (Bv (σ:=Int×(List Int)×(List Half)×(List Int)×(List Int)) (fun s=>([(0,.pointer (some ⟨b,0,none⟩)),(1,I64 (n.source)),(5,I64 (s.1))]:Env)) (fun s=>blk b [hw,ow,lw,nw,I64 (n.sink)] 339::vc 336 (hw) (s.2.2.1)::vc 3 (lw) (s.2.2.2.1)::vc 3 (nw) (s.2.2.2.2)::I) (fun s=>(IsFlow n s.2.1)∧(s.1=netF n s.2.1 n.source)∧(0≤s.1)∧(HOk n s.2.1 s.2.2.1)∧((s.2.2.2.1.length:Int)=n.nodes)∧((s.2.2.2.2.length:Int)=n.nodes)) (fun s=>(18014398509481984 - s.1).toNat) (0,f,hs,L,nx) (show (IsFlow n (f:List Int))∧((0:Int)=netF n (f:List Int) n.source)∧(0≤(0:Int))∧(HOk n (f:List Int) (hs:List Half))∧(((L:List Int).length:Int)=n.nodes)∧(((nx:List Int).length:Int)=n.nodes) from ⟨hf,hv0.symm,om,hh,hL,hN⟩) (Ab rfl (Ab rfl (Ab Ca Bp))) (show Fit κ _ (blk b [hw,ow,lw,nw,I64 (n.sink)] 339::vc 336 (hw) ((hs))::vc 3 (lw) ((L))::vc 3 (nw) ((nx))::I) from A4) ?_))))))))
 rintro ⟨val,f,hs,L,nx⟩ hp
 dsimp only at hp ⊢
 obtain ⟨hf,hval,hv0,hh,hL,hN⟩:=hp
 refine Av (Ah (Gm rfl (Gm rfl (G.e (Aj call341 rfl rfl (Layers_ok (n:=n) (f:=f) hok hh hr ho hrow om om)) ?_))))
 rintro _ _ ⟨_,_,⟨L1,nx2,rfl,⟨hVL1,hnL1,hzL1⟩,rfl⟩,rfl,rfl⟩
 show G Tryz.prog κ _ _ _ _ ([(8,.bool (decide (0≤at_ L1 n.sink))),(7,I64 (n.source)),(6,.pointer (some ⟨b,0,none⟩)),(0,.pointer (some ⟨b,0,none⟩)),(1,I64 (n.source)),(5,I64 (val))]:Env) (blk b [hw,ow,lw,nw,I64 (n.sink)] 339::vc 336 (hw) (hs)::vc 3 (lw) (L1)::vc 3 (nw) (nx2)::I)
 have hlL1:=hVL1.len
 refine Af (A6 rfl (fun c8=>?_) (fun c8=>?_))
 ·refine Az (Ai (A5 (A2 (Gm rfl (Gm rfl (Gm rfl (G.e (Aj call342 rfl rfl (Cq (J:=blk b [hw,ow,lw,nw,I64 (n.sink)] 339::vc 336 (hw) (hs)::vc 3 (lw) (L1)::vc 3 (nw) (nx2)::I) A4 (Push_ok hok hr ho hrow hlL1 hVL1.low n.nodes.toNat 0 om n.source 4611686018427387904 f nx2 hs hVL1.src hsrc.1 hsrc.2 (by rw [hVL1.src];exact Int.le_refl _) om om hh (fun u h0 h1 j hj=>by rw [hzL1 u h0 h1] at hj;omega) (fun z h0 h1=>by rw [hzL1 z h0 h1];exact Int.le_refl _) hnL1))) ?_)))))))
  rintro _ _ ⟨_,_,⟨d3,f4,hs5,nx6,rfl,⟨hbd3,hPd3,hHd3,hAd3⟩,rfl⟩,rfl,rfl⟩
  show G Tryz.prog κ _ _ _ _ ([(12,I64 (d3)),(11,I64 (n.source)),(10,.pointer (some ⟨b,0,none⟩)),(9,I64 (val)),(8,.bool (decide (0≤at_ L1 n.sink))),(7,I64 (n.source)),(6,.pointer (some ⟨b,0,none⟩)),(0,.pointer (some ⟨b,0,none⟩)),(1,I64 (n.source)),(5,I64 (val))]:Env) (blk b [hw,ow,lw,nw,I64 (n.sink)] 339::vc 336 (hw) (hs5)::vc 3 (lw) (L1)::vc 3 (nw) (nx6)::I)
  have hfl:=hPd3.flow hok hf
  have hvb:=value_le hok hfl.1 (fun z=>z==n.source) (by simp) (by simpa using fun e=>hok.ne e.symm)
  have hcb:=(cut_nonneg_le hok (fun z=>z==n.source)).2
  have hpos:1≤d3:=Int.not_lt.1 fun h=>hAd3 om (by rw [hPd3.zero om];exact hVL1.go hok c8)
  have hnn:=hPd3.nlen
  exact Gr (Rad rfl rfl) (Ga rfl (Be (Al (B0 ((val+d3),(f4),(hs5),(L1),(nx6)) (by dsimp only;exact ⟨hfl.1,om,om,hHd3,om,om⟩)))))
 ·exact Bt (Aq (Aq (A9 (Ai (Ah (Gm rfl (Ga rfl (Af (Ay (A0 rfl rfl (blk b [hw,ow,lw,nw,I64 (n.sink)] 339::vc 336 (hw) (hs)::vc 3 (lw) (L1)::vc 3 (nw) (nx2)::I) A4 ⟨val,f,hs,L1,nx2,rfl,⟨⟨hf,hval,hVL1.end hok c8⟩,hh⟩,rfl⟩))))))))))
section
variable {n:Net}{f todo:List Int}{rs:List Row}{x v:Int}{q:Nat}{ag:Bool}{seen:List Bool}
theorem goH_t{i:Int}(h:ag=true):leftH n f (mateH i)=goH n f ag i:=by unfold goH;rw [if_pos h]
theorem goH_f{i:Int}(h:ag=false):leftH n f i=goH n f ag i:=by unfold goH;rw [if_neg (by rw [h];decide)]
theorem RI.inc1(h:RI n f ag v (rowsL rs) seen todo x q)(hd:0<goH n f ag (at_ (at_ rs x).xs (q:Int))→at_ seen (toH n (at_ (at_ rs x).xs (q:Int)))=true):RI n f ag v (rowsL rs) seen todo x (q+1):=h.inc (by rw [rowsL_at];exact hd)
theorem RI.put1(hok:n.Ok)(h:RI n f ag v (rowsL rs) seen todo x q)(hx:0≤x)(hv:0≤v)(hi:InH n (at_ (at_ rs x).xs (q:Int))∧fromH n (at_ (at_ rs x).xs (q:Int))=x)(hl:0<goH n f ag (at_ (at_ rs x).xs (q:Int)))(hn:(!at_ seen (toH n (at_ (at_ rs x).xs (q:Int))))=true) :
  RI n f ag v (rowsL rs) (seen.set (toH n (at_ (at_ rs x).xs (q:Int))).toNat true) (todo++[toH n (at_ (at_ rs x).xs (q:Int))]) x (q+1)∧unB (seen.set (toH n (at_ (at_ rs x).xs (q:Int))).toNat true)+1=unB seen:=by
 have h1:=h.put hok hx hv hi.1 hi.2 hl (by simpa using hn)
 refine ⟨h1.1.inc1 fun _=>?_,h1.2⟩
 have hfo:=from_ok hok hi.1
 rw [Dj _ _ _ _ hfo.2.1.1 hfo.2.1.1 (by have:=h.len;omega),if_pos rfl]
theorem RI.over1(h:RI n f ag v (rowsL rs) seen todo x q)(hq:(at_ rs x).xs.length≤q):RI n f ag v (rowsL rs) seen todo (-1) 0:=h.over (by rw [rowsL_at];exact hq)
end
theorem Reached_ok{κ:Ctx}{I:List Item}{n:Net}{f:List Int}{hs:List Half}{rs:List Row}{b:Nat}{hw ow lw nw:Value}{v:Int}{ag:Bool}(hok:n.Ok)(hh:HOk n f hs)(hhs:Sl κ I hw hs)(hr:ROk n (rowsL rs))(ho:Sl κ I ow rs)(hrow:∀i:Int,0≤i→i<rs.length→Sl κ I (.slice (at_ rs i).a (at_ rs i).xs.length (at_ rs i).c) (at_ rs i).xs)(hv:0≤v∧v<n.nodes) :
    CallS Tryz.prog κ 318 [.pointer (some ⟨b,0,none⟩),I64 (v),.bool (ag)] (blk b [hw,ow,lw,nw,I64 (n.sink)] 339::I) (fun r J=>∃(a:Option Addr) (c:Nat) (seen:List Bool),r = .slice a seen.length c∧Seen n f ag v seen∧J=vc 4 (.slice a seen.length c) seen::blk b [hw,ow,lw,nw,I64 (n.sink)] 339::I):=by
 have hlim:=hok.lim
 have hsrc:=hok.src
 have hsnk:=hok.snk
 have hhl:=hh.len
 have hrl:=hr.rl
 refine Ce3 Tryz.func318 rfl rfl ?_
 refine Ah (Ga rfl (Af (Ah (Gm rfl (Gr (Bg rfl) (Gf fld339_1 rfl (Gl ty79 ?_)))))))
 refine Gr (Bu (α:=Row) (xs:=rs) B8 rfl (Bl ho)) (Ge2 (Cs (α:=Bool) (n:=rs.length) C2 ty4 rfl rfl rfl om om dc rfl) fun ad1 cp2=>?_)
 have hrp:(List.replicate rs.length (default:Bool)).length=rs.length:=List.length_replicate
 refine Ga rfl (Af (Ah (Gm rfl (Gm rfl (Gr (Ba (α:=Bool) (xs:=List.replicate rs.length (default:Bool)) C2 ty4 rfl rfl Bo om om) (Ge0 (Ds (α:=Bool) (xs:=List.replicate rs.length (default:Bool)) (e:=4) (new:=true) ty4 rfl rfl rfl om om am) ?_))))))
 have h0:∀z:Int,0≤z→z<n.nodes→at_ (List.replicate rs.length (default:Bool)) z=false:=fun z a b=>at_rep _ _ _ a om
 have hst:=RI.start (f:=f) (ag:=ag) (rs:=rowsL rs) hv (s0:=List.replicate rs.length (default:Bool)) (by rw [List.length_replicate];exact hrl) h0
 have hst2:unB (List.set (List.replicate rs.length (default:Bool)) v.toNat true)+[v].length≤n.nodes.toNat+1:=by have h9:=List.count_le_length (a:=false) (l:=List.set (List.replicate rs.length (default:Bool)) v.toNat true);rw [List.length_set,List.length_replicate] at h9;unfold unB;simp only [List.length_cons,List.length_nil];omega
 refine Af (Ar (S4 7 0 1 2 rfl rfl rfl rfl) (Av (Ah (Gm rfl (Ge1 (B1 (α:=Int) (cs:=[_]) (xs:=[v]) Am ty3 rfl rfl dc dc rfl rfl rfl rfl) fun ad3=>?_)))))
 refine Ga rfl (Af (A5 (Bv (σ:=(Option Addr)×Nat×(List Int)×(List Bool)) (fun s=>([(0,.pointer (some ⟨b,0,none⟩)),(2,.bool (ag)),(7,.slice ad1 (List.replicate rs.length (default:Bool)).length cp2),(8,.slice s.1 s.2.2.1.length s.2.1)]:Env)) (fun s=>vc 3 (.slice s.1 s.2.2.1.length s.2.1) (s.2.2.1)::vc 4 (.slice ad1 (List.replicate rs.length (default:Bool)).length cp2) (s.2.2.2)::blk b [hw,ow,lw,nw,I64 (n.sink)] 339::I) (fun s=>(RI n f ag v (rowsL rs) s.2.2.2 s.2.2.1 (-1) 0)∧(unB s.2.2.2+s.2.2.1.length≤n.nodes.toNat+1)) (fun s=>unB s.2.2.2+s.2.2.1.length) (ad3,1,[v],List.set (List.replicate rs.length (default:Bool)) (v).toNat (true)) (show (RI n f ag v (rowsL rs) (List.set (List.replicate rs.length (default:Bool)) (v).toNat (true):List Bool) ([v]:List Int) (-1) 0)∧(unB (List.set (List.replicate rs.length (default:Bool)) (v).toNat (true):List Bool)+([v]:List Int).length≤n.nodes.toNat+1) from ⟨hst,hst2⟩) (Ab rfl (Ab rfl (Ab rfl (Ab (Db rfl (by first|rfl|simp)) Bp)))) (show Fit κ _ (vc 3 (.slice (ad3) ([v]).length (1)) (([v]))::vc 4 (.slice ad1 (List.replicate rs.length (default:Bool)).length cp2) ((List.set (List.replicate rs.length (default:Bool)) (v).toNat (true)))::blk b [hw,ow,lw,nw,I64 (n.sink)] 339::I) from A4) ?_)))
 rintro ⟨a,c,todo,seen⟩ hp
 dsimp only at hp ⊢
 obtain ⟨hI,hub⟩:=hp
 have hl2:=hI.len
 refine Av (Ah (Gm rfl (Gr (B3 Am rfl) (Gr (Br rfl rfl) (Af (A6 rfl (fun c26=>?_) (fun c26=>?_)))))))
 ·refine Az (Ai (Av (A5 (Av (Bk mixed (Bq (vc 3 (.slice a todo.length c) (todo)::vc 4 (.slice ad1 (List.replicate rs.length (default:Bool)).length cp2) (seen)::blk b [hw,ow,lw,nw,I64 (n.sink)] 339::I) 11 (Dr 0 rfl (Ac rfl) ?_)))))))
  have hx0:=hI.wait _ (Cf (xs:=todo) (i:=0) om om)
  refine Dr 1 rfl (Bg rfl) (Dr 2 rfl (Aa fld339_1 rfl) (Dr 3 rfl (As ty79) ?_))
  refine Dr 4 rfl (Ac rfl) (Dr 5 rfl (Ba (α:=Int) (xs:=todo) Am ty3 rfl rfl Bo om om) (Dr 6 rfl (Cb (xs:=todo) ty3 rfl Bo om om) (Dr 7 rfl (Ba (α:=Row) (xs:=rs) B8 ty22 rfl rfl (Bl ho) om om) (Dr 8 rfl (Ex (α:=Row) (xs:=rs) (u:= .slice (at_ rs (at_ todo 0)).a (at_ rs (at_ todo 0)).xs.length (at_ rs (at_ todo 0)).c) ty22 rfl (Bl ho) om om rfl) (Dr 9 rfl (B3 Am rfl) (Dr 10 rfl (Ac rfl) (Dz (Ai (Ar (S7 39 38 37 0 2 7 8 rfl rfl rfl rfl rfl rfl rfl) (A5 (Bv (σ:=Nat×(Option Addr)×Nat×(List Int)×(List Bool)) (fun s=>([(0,.pointer (some ⟨b,0,none⟩)),(2,.bool (ag)),(7,.slice ad1 (List.replicate rs.length (default:Bool)).length cp2),(8,.slice s.2.1 s.2.2.2.1.length s.2.2.1),(37,.slice (at_ rs (at_ todo 0)).a (at_ rs (at_ todo 0)).xs.length (at_ rs (at_ todo 0)).c),(38,I64 ((((at_ rs (at_ todo 0)).xs.length:Nat):Int))),(39,I64 (((s.1:Nat):Int)))]:Env)) (fun s=>vc 3 (.slice s.2.1 s.2.2.2.1.length s.2.2.1) (s.2.2.2.1)::vc 4 (.slice ad1 (List.replicate rs.length (default:Bool)).length cp2) (s.2.2.2.2)::blk b [hw,ow,lw,nw,I64 (n.sink)] 339::I) (fun s=>(s.1≤(at_ rs (at_ todo 0)).xs.length)∧(0<s.2.2.2.1.length)∧(at_ s.2.2.2.1 0=(at_ todo 0))∧(RI n f ag v (rowsL rs) s.2.2.2.2 (s.2.2.2.1.drop 1) (at_ todo 0) s.1)∧(unB s.2.2.2.2+s.2.2.2.1.length=unB seen+todo.length)) (fun s=>(at_ rs (at_ todo 0)).xs.length - s.1) (0,a,c,todo,seen) (show ((0:Nat)≤(at_ rs (at_ todo 0)).xs.length)∧(0<(todo:List Int).length)∧(at_ (todo:List Int) 0=(at_ todo 0))∧(RI n f ag v (rowsL rs) (seen:List Bool) ((todo:List Int).drop 1) (at_ todo 0) (0:Nat))∧(unB (seen:List Bool)+(todo:List Int).length=unB seen+todo.length) from ⟨om,om,rfl,(hI.next om),rfl⟩) (Ab rfl (Ab rfl (Ab rfl (Ab (Db rfl (by first|rfl|simp)) (Ab rfl (Ab rfl (Ab Ca Bp))))))) (show Fit κ _ (vc 3 (.slice (a) (todo).length (c)) ((todo))::vc 4 (.slice ad1 (List.replicate rs.length (default:Bool)).length cp2) ((seen))::blk b [hw,ow,lw,nw,I64 (n.sink)] 339::I) from A4) ?_)))))))))))
  rintro ⟨q,a1,c1,w,seen1⟩ hp
  dsimp only at hp ⊢
  obtain ⟨hq,hwl,hw0,hI1,hmu⟩:=hp
  refine W.pull (fun w hs=>(Cj (hrow (at_ todo 0) om om) A1).le w hs) fun hrm=>?_
  have hl3:=hI1.len
  refine Ah (Gr (A8 rfl rfl) (Af (Av (A6 rfl (fun c40=>?_) (fun c40=>?_)))))
  ·refine Az (Ai (Av (A5 (Ah (Gr (Ba (α:=Int) (xs:=(at_ rs (at_ todo 0)).xs) Am ty3 rfl rfl (Cj (hrow (at_ todo 0) om om) A1) om om) (Gr (Cb (xs:=(at_ rs (at_ todo 0)).xs) ty3 rfl (Cj (hrow (at_ todo 0) om om) A1) om om) ?_))))))
   have hm:=hr.row hx0.1.1 hx0.1.2 (j:=(q:Int)) om om
   have hg:=hh.get _ hm.1
   have hfo:=from_ok hok hm.1
   have hi2:0≤(at_ (at_ rs (at_ todo 0)).xs (q:Int))∧(at_ (at_ rs (at_ todo 0)).xs (q:Int))<2*n.arcs.length:=hm.1
   have hmi:0≤mateH (at_ (at_ rs (at_ todo 0)).xs (q:Int))∧mateH (at_ (at_ rs (at_ todo 0)).xs (q:Int))<2*n.arcs.length:=hm.1.mate
   have hg2:=hh.get _ hm.1.mate
   refine Ga rfl (Af (Av (Bk mixed (Bq (vc 3 (.slice a1 w.length c1) (w)::vc 4 (.slice ad1 (List.replicate rs.length (default:Bool)).length cp2) (seen1)::blk b [hw,ow,lw,nw,I64 (n.sink)] 339::I) 19 (Dr 0 rfl (Ac rfl) (Dr 1 rfl (Bg rfl) (Dr 2 rfl (Aa fld339_0 rfl) (Dr 3 rfl (As ty337) ?_))))))))
   refine Dr 4 rfl (Ac rfl) (Dr 5 rfl (Ba (α:=Half) (xs:=hs) B7 ty336 rfl rfl (Bl hhs) om om) (Dr 6 rfl (C8 (α:=Half) (xs:=hs) fld336_0 rfl (Bl hhs) om) (Dr 7 rfl (C8 (α:=Half) (xs:=hs) fld305_1 rfl (Bl hhs) om) (Dr 8 rfl (De (α:=Half) (xs:=hs) (u:=I64 ((at_ hs (at_ ((at_ rs (at_ todo 0)).xs) (q:Int))).dst)) ty3 rfl (Bl hhs) om om rfl) (Dr 9 rfl (Ac rfl) (Dr 10 rfl (Bg rfl) (Dr 11 rfl (Aa fld339_0 rfl) (Dr 12 rfl (As ty337) ?_))))))))
   refine Dr 13 rfl (Ac rfl) (Dr 14 rfl (Ba (α:=Half) (xs:=hs) B7 ty336 rfl rfl (Bl hhs) om om) (Dr 15 rfl (C8 (α:=Half) (xs:=hs) fld336_1 rfl (Bl hhs) om) (Dr 16 rfl (De (α:=Half) (xs:=hs) (u:=I64 ((at_ hs (at_ ((at_ rs (at_ todo 0)).xs) (q:Int))).left)) ty3 rfl (Bl hhs) om om rfl) (Dr 17 rfl (Bd rfl) (Dr 18 rfl (Bd rfl) (Dz (Ai (Ar (S10 12 11 10 0 2 7 8 37 38 39 rfl rfl rfl rfl rfl rfl rfl rfl rfl rfl) (Ek (σ:=Int) (fun s=>([(0,.pointer (some ⟨b,0,none⟩)),(2,.bool (ag)),(7,.slice ad1 (List.replicate rs.length (default:Bool)).length cp2),(8,.slice a1 w.length c1),(11,I64 ((at_ hs (at_ ((at_ rs (at_ todo 0)).xs) (q:Int))).dst)),(12,I64 (s)),(37,.slice (at_ rs (at_ todo 0)).a (at_ rs (at_ todo 0)).xs.length (at_ rs (at_ todo 0)).c),(38,I64 ((((at_ rs (at_ todo 0)).xs.length:Nat):Int))),(39,I64 ((q:Int)))]:Env)) (fun s=>vc 3 (.slice a1 w.length c1) (w)::vc 4 (.slice ad1 (List.replicate rs.length (default:Bool)).length cp2) (seen1)::blk b [hw,ow,lw,nw,I64 (n.sink)] 339::I) (fun s=>(s=goH n f ag (at_ (at_ rs (at_ todo 0)).xs (q:Int)))) ?_ ?_)))))))))
   ·refine Ah (Gm rfl (Af (Ew rfl (fun c60=>?_) (fun c60=>?_))))
    ·refine A2 (Gm rfl (Gr (Bg rfl) (Gf fld339_0 rfl (Gl ty337 ?_))))
     exact Gm rfl (Gr ((xor_mate (i:=at_ ((at_ rs (at_ todo 0)).xs) (q:Int)) om om)▸Runs.xorw rfl rfl) (Gr (Ba (α:=Half) (xs:=hs) B7 ty336 rfl rfl (Bl hhs) om om) (Gr (C8 (α:=Half) (xs:=hs) fld336_1 rfl (Bl hhs) om) (Gr (De (α:=Half) (xs:=hs) (u:=I64 ((at_ hs (mateH (at_ ((at_ rs (at_ todo 0)).xs) (q:Int)))).left)) ty3 rfl (Bl hhs) om om rfl) (Ga rfl (Be (Cl (((at_ hs (mateH (at_ ((at_ rs (at_ todo 0)).xs) (q:Int)))).left)) (by first|exact hg.2.2.trans (goH_f c60)|exact hg2.2.2.trans (goH_t c60)))))))))
    ·exact Az (Cl (((at_ hs (at_ ((at_ rs (at_ todo 0)).xs) (q:Int))).left)) (by first|exact hg.2.2.trans (goH_f c60)|exact hg2.2.2.trans (goH_t c60)))
   ·rintro lft hp
    have hlft:(lft=goH n f ag (at_ (at_ rs (at_ todo 0)).xs (q:Int))):=hp
    show W Tryz.prog κ 88 _ _ ([(0,.pointer (some ⟨b,0,none⟩)),(2,.bool (ag)),(7,.slice ad1 (List.replicate rs.length (default:Bool)).length cp2),(8,.slice a1 w.length c1),(11,I64 ((at_ hs (at_ ((at_ rs (at_ todo 0)).xs) (q:Int))).dst)),(12,I64 (lft)),(37,.slice (at_ rs (at_ todo 0)).a (at_ rs (at_ todo 0)).xs.length (at_ rs (at_ todo 0)).c),(38,I64 ((((at_ rs (at_ todo 0)).xs.length:Nat):Int))),(39,I64 ((q:Int)))]:Env) (vc 3 (.slice a1 w.length c1) (w)::vc 4 (.slice ad1 (List.replicate rs.length (default:Bool)).length cp2) (seen1)::blk b [hw,ow,lw,nw,I64 (n.sink)] 339::I)
    refine Ah (Gm rfl (Gr (Br rfl rfl) (Gm rfl (A7 (d:=72) rfl (fun g72=>?_) (fun g72=>?_)))))
    ·refine Gro (Ac rfl) (Gro (Ac rfl) (Gro (Ba (α:=Bool) (xs:=seen1) C2 ty4 rfl rfl Bo om om) (Gro (Runs.getB (xs:=seen1) ty4 rfl Bo om om) (Gro (Ck rfl) (Gr (Ao rfl rfl) (Af (Ar (S9 78 0 2 7 8 11 37 38 39 rfl rfl rfl rfl rfl rfl rfl rfl rfl) (Ew rfl (fun c78=>?_) (fun c78=>?_)))))))))
     ·refine Ah (Gm rfl (Gm rfl (Gr (Ba (α:=Bool) (xs:=seen1) C2 ty4 rfl rfl Bo om om) (Ge0 (Ds (α:=Bool) (xs:=seen1) (e:=4) (new:=true) ty4 rfl rfl rfl om om am) ?_))))
      refine Af (A2 (Gm rfl (Gm rfl (Ge1 (B1 (α:=Int) (cs:=[_]) (xs:=[(at_ hs (at_ ((at_ rs (at_ todo 0)).xs) (q:Int))).dst]) Am ty3 rfl rfl dc dc rfl rfl rfl rfl) fun ad4=>?_))))
      refine Ge2 (B2 (α:=Int) (e:=3) (xs:=w) (ys:=([(at_ hs (at_ ((at_ rs (at_ todo 0)).xs) (q:Int))).dst]:List Int)) Am ty3 rfl rfl rfl mm Bo lcn dc rfl (fun _ _=>am)) fun ad5 cp6=>?_
      exact Ga rfl (Be (Al (Ai (Ar (S7 8 0 2 7 37 38 39 rfl rfl rfl rfl rfl rfl rfl) (A2 (Gr (Rad rfl rfl) (Gm rfl (Be (B0 ((q+1),(ad5),(cp6),(w++([(at_ hs (at_ ((at_ rs (at_ todo 0)).xs) (q:Int))).dst]:List Int)),(List.set seen1 ((at_ hs (at_ ((at_ rs (at_ todo 0)).xs) (q:Int))).dst).toNat (true))) (by dsimp only;exact ⟨om,(by first|exact hwl|(rw [List.length_append];omega)),(by first|exact hw0|(rw [at_zero_append hwl];exact hw0)),(by first|exact hI1.inc1 (fun h=>by omega)|exact hI1.inc1 (fun _=>by rw [←hg.2.1];simpa using c78)|(rw [hg.2.1,drop_one_append hwl];exact (hI1.put1 hok hx0.1.1 hv.1 hm om (by rw [←hg.2.1];exact c78)).1)),(by first|exact hmu|(rw [hg.2.1,List.length_append];have:=(hI1.put1 hok hx0.1.1 hv.1 hm om (by rw [←hg.2.1];exact c78)).2;simp only [List.length_cons,List.length_nil];omega))⟩))))))))))
     ·exact Az (Al (Ai (A2 (Gr (Rad rfl rfl) (Gm rfl (Be (B0 ((q+1),(a1),(c1),(w),(seen1)) (by dsimp only;exact ⟨om,(by first|exact hwl|(rw [List.length_append];omega)),(by first|exact hw0|(rw [at_zero_append hwl];exact hw0)),(by first|exact hI1.inc1 (fun h=>by omega)|exact hI1.inc1 (fun _=>by rw [←hg.2.1];simpa using c78)|(rw [hg.2.1,drop_one_append hwl];exact (hI1.put1 hok hx0.1.1 hv.1 hm om (by rw [←hg.2.1];exact c78)).1)),(by first|exact hmu|(rw [hg.2.1,List.length_append];have:=(hI1.put1 hok hx0.1.1 hv.1 hm om (by rw [←hg.2.1];exact c78)).2;simp only [List.length_cons,List.length_nil];omega))⟩))))))))
    ·exact Gpo (Gpo (Gpo (Gpo (Gpo (Gr (Ak rfl rfl) (Af (Ar (S9 78 0 2 7 8 11 37 38 39 rfl rfl rfl rfl rfl rfl rfl rfl rfl) (Cw rfl (Az (Al (Ai (A2 (Gr (Rad rfl rfl) (Gm rfl (Be (B0 ((q+1),(a1),(c1),(w),(seen1)) (by dsimp only;exact ⟨om,(by first|exact hwl|(rw [List.length_append];omega)),(by first|exact hw0|(rw [at_zero_append hwl];exact hw0)),(by first|exact hI1.inc1 (fun h=>by omega)|exact hI1.inc1 (fun _=>by rw [←hg.2.1];simpa using c78)|(rw [hg.2.1,drop_one_append hwl];exact (hI1.put1 hok hx0.1.1 hv.1 hm om (by rw [←hg.2.1];exact c78)).1)),(by first|exact hmu|(rw [hg.2.1,List.length_append];have:=(hI1.put1 hok hx0.1.1 hv.1 hm om (by rw [←hg.2.1];exact c78)).2;simp only [List.length_cons,List.length_nil];omega))⟩)))))))))))))))))
  ·refine Bt (Aq (Aq (A9 (Al (Ai (A2 (Gm rfl (Gr (Runs.lo (α:=Int) (xs:=w) (l:=1) Am ty3 rfl rfl om Bo om) (G.fit (J:=vc 3 (.slice (adrop a1 c1 1 (Enc.sz Int)) (List.drop 1 w).length (c1 - 1)) (List.drop 1 w)::vc 4 (.slice ad1 (List.replicate rs.length (default:Bool)).length cp2) (seen1)::blk b [hw,ow,lw,nw,I64 (n.sink)] 339::I) (Fit.upd am (reslice (l:=1) om)) ?_)))))))))
   exact Ga rfl (Be (B0 (((adrop a1 c1 1 (Enc.sz Int))),((c1 - 1)),(List.drop 1 w),(seen1)) (by dsimp only;exact ⟨(hI1.over1 om),(by rw [List.length_drop];omega)⟩) (hlt:=by (try dsimp only);exact (by rw [List.length_drop];omega))))
 ·refine Bt (Aq (Aq (A9 (Ai (Ah (Gm rfl (Ga rfl (Af (Ay ?_)))))))))
  have hdn:=hI.done hok hr om
  have hsl:(List.replicate rs.length (default:Bool)).length=seen.length:=by rw [List.length_replicate];omega
  exact A0 rfl rfl (vc 4 (.slice ad1 (List.replicate rs.length (default:Bool)).length cp2) (seen)::blk b [hw,ow,lw,nw,I64 (n.sink)] 339::I) A4 ⟨ad1,cp2,seen,by rw [hsl],hdn,by rw [hsl]⟩
variable {κ:Ctx}{I:List Item}
def rowsI(rs:List Row):List Item:=rs.map fun r=>vc 3 (.slice r.a r.xs.length r.c) r.xs
theorem Fit.nilrows:∀N:Nat,Fit κ I (rowsI (List.replicate N (default:Row))++I)
 |0=>C9 _
 |N+1=>Cp (Fit.nilrows N) (Bw _ _)
theorem At.rows{I:List Item}{ad:Option Addr}{c:Nat}{xs:List Int}:∀{rs:List Row} {i:Int},0≤i→i<rs.length→
  At (rowsI rs++I) (vc 3 (.slice (at_ rs i).a (at_ rs i).xs.length (at_ rs i).c) (at_ rs i).xs) (vc 3 (.slice ad xs.length c) xs) (rowsI (List.set rs i.toNat ⟨ad,c,xs⟩)++I):=fun {rs} {i} h0 h=>by
 obtain ⟨k,rfl⟩:∃k:Nat,i=(k:Int):=⟨i.toNat,by omega⟩
 rw [Int.toNat_natCast]
 clear h0
 induction rs generalizing k with
 |nil=>simp at h;omega
 |cons r rs ih=>
  cases k with
  |zero=>exact At.head _ _ _
  |succ k=>exact At.tail _ (ih k (by simp at h;omega))
theorem rowsI_mem{I:List Item}{rs:List Row}{i:Int}(h0:0≤i)(h:i<rs.length):vc 3 (.slice (at_ rs i).a (at_ rs i).xs.length (at_ rs i).c) (at_ rs i).xs∈rowsI rs++I:=(At.rows (ad:=none) (c:=0) (xs:=[]) h0 h).mem
theorem rowsI_sl{rs:List Row}(i:Int)(h0:0≤i)(h:i<rs.length):Sl κ (rowsI rs++I) (.slice (at_ rs i).a (at_ rs i).xs.length (at_ rs i).c) (at_ rs i).xs:=Sl.vec (rowsI_mem h0 h)
structure OI (n:Net) (rs:List Row) (hs:List Half) (k:Nat):Prop where
 len:(rs.length:Int)=n.nodes
 hlen:hs.length=2*k
 get:∀i:Int,0≤i→i<2*k→(at_ hs i).frm=fromH n i∧(at_ hs i).dst=toH n i∧(at_ hs i).left=if i % 2=0 then (at_ n.arcs (i / 2)).cap else 0
 all:∀v,0≤v→v<n.nodes→∀i∈(at_ rs v).xs,(0≤i∧i<2*k)∧fromH n i=v
 has:∀i:Int,0≤i→i<2*k→i∈(at_ rs (fromH n i)).xs
 bnd:∀v,0≤v→v<n.nodes→(at_ rs v).xs.length≤2*k
theorem OI.start{n:Net}(hok:n.Ok):OI n (List.replicate n.nodes.toNat (default:Row)) [] 0:=by
 have:=hok.two
 have h:∀v,0≤v→v<n.nodes→at_ (List.replicate n.nodes.toNat (default:Row)) v=default:=fun v a b=>at_rep _ _ _ a om
 exact ⟨by rw [List.length_replicate];omega,rfl,fun i a b=>by omega,fun v a b i hi=>(by rw [h v a b] at hi;cases hi),fun i a b=>om,fun v a b=>(by rw [h v a b];exact Nat.zero_le _)⟩
theorem OI.step{n:Net}(hok:n.Ok){rs:List Row}{hs:List Half}{k:Nat}(h:OI n rs hs k)(hk:k<n.arcs.length)(a1 a2:Option Addr)(c1 c2:Nat){x y u w:Int}(hx:x=2*k)(hy:y=2*k+1)(hu:u=(at_ n.arcs (k:Int)).frm)(hw:w=(at_ n.arcs (k:Int)).dst) :
  OI n (List.set (List.set rs u.toNat ⟨a1,c1,(at_ rs u).xs++[x]⟩) w.toNat ⟨a2,c2,(at_ (List.set rs u.toNat ⟨a1,c1,(at_ rs u).xs++[x]⟩) w).xs++[y]⟩)
   (hs++[⟨u,w,(at_ n.arcs (k:Int)).cap,(at_ n.arcs (k:Int)).cap⟩,⟨w,u,0,0⟩]) (k+1):=by
 have ha:=arc_at hok hk
 subst hx hy hu hw
 have hlen:=h.len
 have hl2:=h.hlen
 generalize hA:at_ n.arcs (k:Int)=A at *
 have f0:fromH n (2*(k:Int))=A.frm:=by unfold fromH;rw [if_pos om,show (2*(k:Int)) / 2=k from by omega,hA]
 have f1:fromH n (2*(k:Int)+1)=A.dst:=by unfold fromH;rw [if_neg om,show (2*(k:Int)+1) / 2=k from by omega,hA]
 have t0:toH n (2*(k:Int))=A.dst:=by unfold toH;rw [if_pos om,show (2*(k:Int)) / 2=k from by omega,hA]
 have t1:toH n (2*(k:Int)+1)=A.frm:=by unfold toH;rw [if_neg om,show (2*(k:Int)+1) / 2=k from by omega,hA]
 have e1:at_ (List.set rs A.frm.toNat ⟨a1,c1,(at_ rs A.frm).xs++[2*(k:Int)]⟩) A.dst=at_ rs A.dst:=by rw [Dj rs _ _ _ ha.1.1 ha.2.1.1 om,if_neg ha.2.2.1]
 have hat:∀v,0≤v→v<n.nodes→(at_ (List.set (List.set rs A.frm.toNat ⟨a1,c1,(at_ rs A.frm).xs++[2*(k:Int)]⟩) A.dst.toNat ⟨a2,c2,(at_ (List.set rs A.frm.toNat ⟨a1,c1,(at_ rs A.frm).xs++[2*(k:Int)]⟩) A.dst).xs++[2*(k:Int)+1]⟩) v).xs =
   (at_ rs v).xs++(if A.dst=v then [2*(k:Int)+1] else if A.frm=v then [2*(k:Int)] else []):=fun v h0 h1=>by
  rw [Dj _ _ _ _ ha.2.1.1 h0 (by rw [List.length_set];omega),e1,Dj rs _ _ _ ha.1.1 h0 om]
  by_cases d1:A.dst=v
  ·rw [if_pos d1,if_pos d1,d1]
  ·rw [if_neg d1,if_neg d1]
   by_cases d2:A.frm=v
   ·rw [if_pos d2,if_pos d2,d2]
   ·rw [if_neg d2,if_neg d2,List.append_nil]
 refine ⟨by simp;exact hlen,by simp;omega,fun i h0 h1=>?_,fun v h0 h1 i hi=>?_,fun i h0 h1=>?_,fun v h0 h1=>?_⟩
 ·by_cases hi:i<2*k
  ·have:=h.get i h0 hi
   have e:at_ (hs++[⟨A.frm,A.dst,A.cap,A.cap⟩,⟨A.dst,A.frm,0,0⟩]) i=at_ hs i:=by
    have:=at_append_left hs [⟨A.frm,A.dst,A.cap,A.cap⟩,⟨A.dst,A.frm,0,0⟩] i.toNat om
    rwa [show ((i.toNat:Nat):Int)=i from by omega] at this
   rw [e];exact this
  ·have hcase:i=2*(k:Int)∨i=2*(k:Int)+1:=by omega
   rcases hcase with rfl|rfl
   ·have e:at_ (hs++[⟨A.frm,A.dst,A.cap,A.cap⟩,⟨A.dst,A.frm,0,0⟩]) (2*(k:Int))=⟨A.frm,A.dst,A.cap,A.cap⟩:=by
     unfold at_
     rw [show (2*(k:Int)).toNat=hs.length+0 from by omega,List.getD_eq_getElem?_getD,List.getElem?_append_right om,Nat.add_sub_cancel_left];rfl
    rw [e,f0,t0,if_pos om,show (2*(k:Int)) / 2=k from by omega,hA];exact ⟨rfl,rfl,rfl⟩
   ·have e:at_ (hs++[⟨A.frm,A.dst,A.cap,A.cap⟩,⟨A.dst,A.frm,0,0⟩]) (2*(k:Int)+1)=⟨A.dst,A.frm,0,0⟩:=by
     unfold at_
     rw [show (2*(k:Int)+1).toNat=hs.length+1 from by omega,List.getD_eq_getElem?_getD,List.getElem?_append_right om,Nat.add_sub_cancel_left];rfl
    rw [e,f1,t1,if_neg om];exact ⟨rfl,rfl,rfl⟩
 ·rw [hat v h0 h1] at hi
  rcases List.mem_append.1 hi with hi|hi
  ·have:=h.all v h0 h1 i hi
   exact ⟨by omega,this.2⟩
  ·by_cases d1:A.dst=v
   ·rw [if_pos d1] at hi
    rw [List.mem_singleton.1 hi];exact ⟨by omega,f1.trans d1⟩
   ·rw [if_neg d1] at hi
    by_cases d2:A.frm=v
    ·rw [if_pos d2] at hi
     rw [List.mem_singleton.1 hi];exact ⟨by omega,f0.trans d2⟩
    ·rw [if_neg d2] at hi;cases hi
 ·by_cases hi:i<2*k
  ·have:=h.has i h0 hi
   have hfr:=arc_at hok (k:=(i / 2).toNat) om
   rw [show (((i / 2).toNat:Nat):Int)=i / 2 from by omega] at hfr
   rw [hat _ (by unfold fromH;split<;>omega) (by unfold fromH;split<;>omega)]
   exact List.mem_append_left _ this
  ·have hcase:i=2*(k:Int)∨i=2*(k:Int)+1:=by omega
   rcases hcase with rfl|rfl
   ·rw [f0,hat _ ha.1.1 ha.1.2,if_neg (fun e=>ha.2.2.1 e.symm),if_pos rfl];exact List.mem_append_right _ (List.mem_singleton.2 rfl)
   ·rw [f1,hat _ ha.2.1.1 ha.2.1.2,if_pos rfl];exact List.mem_append_right _ (List.mem_singleton.2 rfl)
 ·rw [hat v h0 h1,List.length_append]
  have:=h.bnd v h0 h1
  split
  ·simp only [List.length_cons,List.length_nil];omega
  ·split<;>simp only [List.length_cons,List.length_nil]<;>omega
theorem OI.done{n:Net}(hok:n.Ok){rs:List Row}{hs:List Half}{k:Nat}(h:OI n rs hs k)(hk:k=n.arcs.length):HOk n (List.replicate n.arcs.length (0:Int)) hs∧ROk n (rowsL rs):=by
 subst hk
 have hz:=flow_zero n hok
 have h0:∀j:Int,0≤j→j<n.arcs.length→at_ (List.replicate n.arcs.length (0:Int)) j=0:=fun j a b=>at_rep _ _ _ a b
 refine ⟨⟨by have:=h.hlen;omega,by simp,hz.1.cap,fun i hi=>?_⟩,⟨by unfold rowsL;rw [List.length_map];exact h.len,fun v a b i hi=>by rw [rowsL_at] at hi;exact h.all v a b i hi,fun i hi=>by rw [rowsL_at];exact h.has i hi.1 hi.2⟩⟩
 have h1:=hi.half
 have:=h.get i hi.1 hi.2
 refine ⟨this.1,this.2.1,this.2.2.trans ?_⟩
 unfold leftH
 rw [h0 _ h1.1 h1.2]
 split<;>omega
set_option maxHeartbeats 4000000 in
theorem Open_ok{n:Net}{v:Value}(hl:Sl κ I v n.arcs)(hok:n.Ok) :
    CallS Tryz.prog κ 335 [.agg #[I64 (n.nodes),I64 (n.source),I64 (n.sink),v]] I (fun r J=>∃(b:Nat) (hw ow lw nw:Value) (hs:List Half) (rs:List Row) (L nx:List Int),r = .pointer (some ⟨b,0,none⟩)∧(HOk n (List.replicate n.arcs.length (0:Int)) hs∧ROk n (rowsL rs)∧(L.length:Int)=n.nodes∧(nx.length:Int)=n.nodes)∧J=blk b [hw,ow,lw,nw,I64 (n.sink)] 339::vc 336 (hw) (hs)::vc 3 (lw) (L)::vc 3 (nw) (nx)::(vc 22 ow rs::(rowsI rs++I))):=by
 refine Cq (J:=(rowsI (List.replicate n.nodes.toNat (default:Row))++I)) (Fit.nilrows _) ?_
 have hl2:=hl
 have hlim:=hok.lim
 have htwo:=hok.two
 have hsrc:=hok.src
 have hsnk:=hok.snk
 refine Ce1 Tryz.func335 rfl rfl ?_
 refine Ah (Ge1 (Bb (cs:=[_,_,_,_]) rfl rfl rfl) fun b1=>Ga rfl (Af (Ek (σ:=Nat×(Option Addr)×Nat×(Option Addr)×Nat×(Option Addr)×Nat) (fun s=>([(1,.pointer (some ⟨b1,0,none⟩)),(3,.pointer (some ⟨s.1,0,none⟩))]:Env)) (fun s=>blk s.1 [.slice none 0 0,.slice s.2.1 (List.replicate n.nodes.toNat (default:Row)).length s.2.2.1,.slice s.2.2.2.1 (List.replicate n.nodes.toNat (default:Int)).length s.2.2.2.2.1,.slice s.2.2.2.2.2.1 (List.replicate n.nodes.toNat (default:Int)).length s.2.2.2.2.2.2,I64 (n.sink)] 339::vc 22 (.slice s.2.1 (List.replicate n.nodes.toNat (default:Row)).length s.2.2.1) (List.replicate n.nodes.toNat (default:Row))::vc 3 (.slice s.2.2.2.1 (List.replicate n.nodes.toNat (default:Int)).length s.2.2.2.2.1) (List.replicate n.nodes.toNat (default:Int))::vc 3 (.slice s.2.2.2.2.2.1 (List.replicate n.nodes.toNat (default:Int)).length s.2.2.2.2.2.2) (List.replicate n.nodes.toNat (default:Int))::blk b1 [I64 (n.nodes),I64 (n.source),I64 (n.sink),v] 303::(rowsI (List.replicate n.nodes.toNat (default:Row))++I)) (fun s=>True) ?_ ?_)))
 ·refine Bk mixed (Bq (blk b1 [I64 (n.nodes),I64 (n.source),I64 (n.sink),v] 303::(rowsI (List.replicate n.nodes.toNat (default:Row))++I)) 14 (Dr 0 rfl (Aa fld303_0 rfl) (Dr 1 rfl (As ty3) ?_)))
  refine Dr 3 rfl (Aa fld303_0 rfl) (Dr 4 rfl (As ty3) ?_)
  refine Dr 6 rfl (Aa fld303_0 rfl) (Dr 7 rfl (As ty3) ?_)
  refine Dr 9 rfl (Aa fld303_2 rfl) (Dr 10 rfl (As ty3) ?_)
  refine Cc (rs:=[2,5,8]) kr rfl rfl (C4 ?_ (C4 ?_ (Dc ?_)))
  ·refine Se2 rfl (Cs (α:=Row) (n:=n.nodes.toNat) B8 ty22 rfl rfl rfl om om dc rfl) fun ad2 cp3=>?_
   refine Cc (rs:=[5,8]) kr rfl rfl (C4 ?_ (Dc ?_))
   ·refine Se2 rfl (Cs (α:=Int) (n:=n.nodes.toNat) Am ty3 rfl rfl rfl om om dc rfl) fun ad4 cp5=>?_
    refine Ds1 8 (Se2 rfl (Cs (α:=Int) (n:=n.nodes.toNat) Am ty3 rfl rfl rfl om om dc rfl) fun ad6 cp7=>?_)
    refine Dr 11 rfl (Bc (cells:=[_,_,_,_,_]) ty339 Dl pl339 rfl rfl) (Ds1 12 (Se1 rfl (Bb (cs:=[_,_,_,_,_]) rfl rfl rfl) fun b8=>?_))
    exact Dr 13 rfl (Bd rfl) (Dz (Cl ((b8),(ad2),(cp3),(ad4),(cp5),(ad6),(cp7)) trivial))
   ·refine Se2 rfl (Cs (α:=Int) (n:=n.nodes.toNat) Am ty3 rfl rfl rfl om om dc rfl) fun ad9 cp10=>?_
    refine Ds1 5 (Se2 rfl (Cs (α:=Int) (n:=n.nodes.toNat) Am ty3 rfl rfl rfl om om dc rfl) fun ad11 cp12=>?_)
    refine Dr 11 rfl (Bc (cells:=[_,_,_,_,_]) ty339 Dl pl339 rfl rfl) (Ds1 12 (Se1 rfl (Bb (cs:=[_,_,_,_,_]) rfl rfl rfl) fun b13=>?_))
    exact Dr 13 rfl (Bd rfl) (Dz (Cl ((b13),(ad2),(cp3),(ad11),(cp12),(ad9),(cp10)) trivial))
  ·refine Se2 rfl (Cs (α:=Int) (n:=n.nodes.toNat) Am ty3 rfl rfl rfl om om dc rfl) fun ad14 cp15=>?_
   refine Cc (rs:=[2,8]) kr rfl rfl (C4 ?_ (Dc ?_))
   ·refine Se2 rfl (Cs (α:=Row) (n:=n.nodes.toNat) B8 ty22 rfl rfl rfl om om dc rfl) fun ad16 cp17=>?_
    refine Ds1 8 (Se2 rfl (Cs (α:=Int) (n:=n.nodes.toNat) Am ty3 rfl rfl rfl om om dc rfl) fun ad18 cp19=>?_)
    refine Dr 11 rfl (Bc (cells:=[_,_,_,_,_]) ty339 Dl pl339 rfl rfl) (Ds1 12 (Se1 rfl (Bb (cs:=[_,_,_,_,_]) rfl rfl rfl) fun b20=>?_))
    exact Dr 13 rfl (Bd rfl) (Dz (Cl ((b20),(ad16),(cp17),(ad14),(cp15),(ad18),(cp19)) trivial))
   ·refine Se2 rfl (Cs (α:=Int) (n:=n.nodes.toNat) Am ty3 rfl rfl rfl om om dc rfl) fun ad21 cp22=>?_
    refine Ds1 2 (Se2 rfl (Cs (α:=Row) (n:=n.nodes.toNat) B8 ty22 rfl rfl rfl om om dc rfl) fun ad23 cp24=>?_)
    refine Dr 11 rfl (Bc (cells:=[_,_,_,_,_]) ty339 Dl pl339 rfl rfl) (Ds1 12 (Se1 rfl (Bb (cs:=[_,_,_,_,_]) rfl rfl rfl) fun b25=>?_))
    exact Dr 13 rfl (Bd rfl) (Dz (Cl ((b25),(ad23),(cp24),(ad14),(cp15),(ad21),(cp22)) trivial))
  ·refine Se2 rfl (Cs (α:=Int) (n:=n.nodes.toNat) Am ty3 rfl rfl rfl om om dc rfl) fun ad26 cp27=>?_
   refine Cc (rs:=[2,5]) kr rfl rfl (C4 ?_ (Dc ?_))
   ·refine Se2 rfl (Cs (α:=Row) (n:=n.nodes.toNat) B8 ty22 rfl rfl rfl om om dc rfl) fun ad28 cp29=>?_
    refine Ds1 5 (Se2 rfl (Cs (α:=Int) (n:=n.nodes.toNat) Am ty3 rfl rfl rfl om om dc rfl) fun ad30 cp31=>?_)
    refine Dr 11 rfl (Bc (cells:=[_,_,_,_,_]) ty339 Dl pl339 rfl rfl) (Ds1 12 (Se1 rfl (Bb (cs:=[_,_,_,_,_]) rfl rfl rfl) fun b32=>?_))
    exact Dr 13 rfl (Bd rfl) (Dz (Cl ((b32),(ad28),(cp29),(ad30),(cp31),(ad26),(cp27)) trivial))
   ·refine Se2 rfl (Cs (α:=Int) (n:=n.nodes.toNat) Am ty3 rfl rfl rfl om om dc rfl) fun ad33 cp34=>?_
    refine Ds1 2 (Se2 rfl (Cs (α:=Row) (n:=n.nodes.toNat) B8 ty22 rfl rfl rfl om om dc rfl) fun ad35 cp36=>?_)
    refine Dr 11 rfl (Bc (cells:=[_,_,_,_,_]) ty339 Dl pl339 rfl rfl) (Ds1 12 (Se1 rfl (Bb (cs:=[_,_,_,_,_]) rfl rfl rfl) fun b37=>?_))
    exact Dr 13 rfl (Bd rfl) (Dz (Cl ((b37),(ad35),(cp36),(ad33),(cp34),(ad26),(cp27)) trivial))
 ·rintro ⟨b,ao,co,al,cl,an,cn⟩ hp
  show W Tryz.prog κ 92 _ _ ([(1,.pointer (some ⟨b1,0,none⟩)),(3,.pointer (some ⟨b,0,none⟩))]:Env) (blk b [.slice none 0 0,.slice ao (List.replicate n.nodes.toNat (default:Row)).length co,.slice al (List.replicate n.nodes.toNat (default:Int)).length cl,.slice an (List.replicate n.nodes.toNat (default:Int)).length cn,I64 (n.sink)] 339::vc 22 (.slice ao (List.replicate n.nodes.toNat (default:Row)).length co) (List.replicate n.nodes.toNat (default:Row))::vc 3 (.slice al (List.replicate n.nodes.toNat (default:Int)).length cl) (List.replicate n.nodes.toNat (default:Int))::vc 3 (.slice an (List.replicate n.nodes.toNat (default:Int)).length cn) (List.replicate n.nodes.toNat (default:Int))::blk b1 [I64 (n.nodes),I64 (n.source),I64 (n.sink),v] 303::(rowsI (List.replicate n.nodes.toNat (default:Row))++I))
  refine Av (Ah (Gf fld303_3 rfl (Gl ty301 ?_)))
  refine Gr (Bu (α:=Arc) (xs:=n.arcs) C7 rfl (Bl hl)) (Gm rfl (Af (A5 (Bv (σ:=Nat×(Option Addr)×Nat×(List Half)×(List Row)) (fun s=>([(3,.pointer (some ⟨b,0,none⟩)),(20,v),(21,I64 (((n.arcs.length:Nat):Int))),(22,I64 (((s.1:Nat):Int)))]:Env)) (fun s=>vc 336 (.slice s.2.1 s.2.2.2.1.length s.2.2.1) (s.2.2.2.1)::blk b [.slice s.2.1 s.2.2.2.1.length s.2.2.1,.slice ao (List.replicate n.nodes.toNat (default:Row)).length co,.slice al (List.replicate n.nodes.toNat (default:Int)).length cl,.slice an (List.replicate n.nodes.toNat (default:Int)).length cn,I64 (n.sink)] 339::vc 22 (.slice ao (List.replicate n.nodes.toNat (default:Row)).length co) (s.2.2.2.2)::vc 3 (.slice al (List.replicate n.nodes.toNat (default:Int)).length cl) (List.replicate n.nodes.toNat (default:Int))::vc 3 (.slice an (List.replicate n.nodes.toNat (default:Int)).length cn) (List.replicate n.nodes.toNat (default:Int))::blk b1 [I64 (n.nodes),I64 (n.source),I64 (n.sink),v] 303::(rowsI s.2.2.2.2++I)) (fun s=>(s.1≤n.arcs.length)∧(OI n s.2.2.2.2 s.2.2.2.1 s.1)) (fun s=>n.arcs.length - s.1) (0,none,0,[],(List.replicate n.nodes.toNat (default:Row))) (show ((0:Nat)≤n.arcs.length)∧(OI n ((List.replicate n.nodes.toNat (default:Row)):List Row) ([]:List Half) (0:Nat)) from ⟨om,(OI.start hok)⟩) (Ab rfl (Ab rfl (Ab rfl (Ab Ca Bp)))) (show Fit κ _ (vc 336 (.slice (none) ([]).length (0)) (([]))::blk b [.slice (none) ([]).length (0),.slice ao (List.replicate n.nodes.toNat (default:Row)).length co,.slice al (List.replicate n.nodes.toNat (default:Int)).length cl,.slice an (List.replicate n.nodes.toNat (default:Int)).length cn,I64 (n.sink)] 339::vc 22 (.slice ao (List.replicate n.nodes.toNat (default:Row)).length co) (((List.replicate n.nodes.toNat (default:Row))))::vc 3 (.slice al (List.replicate n.nodes.toNat (default:Int)).length cl) (List.replicate n.nodes.toNat (default:Int))::vc 3 (.slice an (List.replicate n.nodes.toNat (default:Int)).length cn) (List.replicate n.nodes.toNat (default:Int))::blk b1 [I64 (n.nodes),I64 (n.source),I64 (n.sink),v] 303::(rowsI ((List.replicate n.nodes.toNat (default:Row)))++I)) from (Bw _ _)) ?_))))
  rintro ⟨k,ah,ch,hs,rs⟩ hp
  dsimp only at hp ⊢
  obtain ⟨hk,hO⟩:=hp
  have hlen:=hO.len
  have hhl:=hO.hlen
  refine Ah (Gr (A8 rfl rfl) (Af (Av (A6 rfl (fun c23=>?_) (fun c23=>?_)))))
  ·refine Az (Ai (Av (A5 (Ah (Gr (Ba (α:=Arc) (xs:=n.arcs) C7 ty305 rfl rfl (Bl hl) om om) (Gr (Bs (α:=Arc) (xs:=n.arcs) ty305 rfl (Bl hl) om om) ?_))))))
   have hb:=hok.arc (at_ n.arcs (k:Int)) (Cf om om)
   have hb1:=hO.bnd _ hb.1.1 hb.1.2
   have hb2:=hO.bnd _ hb.2.1.1 hb.2.1.2
   refine Ge1 (Ax ty305 rfl) fun b38=>Ge0 (Es3_3 ty305) ?_
   refine Af (Av (Bk mixed (Bq (blk b38 [I64 ((at_ n.arcs (k:Int)).frm),I64 ((at_ n.arcs (k:Int)).dst),I64 ((at_ n.arcs (k:Int)).cap)] 305::vc 336 (.slice ah hs.length ch) (hs)::blk b [.slice ah hs.length ch,.slice ao (List.replicate n.nodes.toNat (default:Row)).length co,.slice al (List.replicate n.nodes.toNat (default:Int)).length cl,.slice an (List.replicate n.nodes.toNat (default:Int)).length cn,I64 (n.sink)] 339::vc 22 (.slice ao (List.replicate n.nodes.toNat (default:Row)).length co) (rs)::vc 3 (.slice al (List.replicate n.nodes.toNat (default:Int)).length cl) (List.replicate n.nodes.toNat (default:Int))::vc 3 (.slice an (List.replicate n.nodes.toNat (default:Int)).length cn) (List.replicate n.nodes.toNat (default:Int))::blk b1 [I64 (n.nodes),I64 (n.source),I64 (n.sink),v] 303::I) 22 (Dr 0 rfl (Ac rfl) (Dr 1 rfl (Bg rfl) (Dr 2 rfl (Aa fld339_1 rfl) (Dr 3 rfl (As ty79) ?_)))))))
   refine Dr 4 rfl (Aa fld305_0 rfl) (Dr 5 rfl (As ty3) ?_)
   refine Dr 6 rfl (Ac rfl) (Dr 7 rfl (Bg rfl) (Dr 8 rfl (Aa fld339_1 rfl) (Dr 9 rfl (As ty79) ?_)))
   refine Dr 10 rfl (Aa fld305_0 rfl) (Dr 11 rfl (As ty3) ?_)
   refine Dr 12 rfl (Ba (α:=Row) (xs:=rs) B8 ty22 rfl rfl Bo om om) (Dr 13 rfl (Ex (α:=Row) (xs:=rs) (u:= .slice (at_ rs ((at_ n.arcs (k:Int)).frm)).a (at_ rs ((at_ n.arcs (k:Int)).frm)).xs.length (at_ rs ((at_ n.arcs (k:Int)).frm)).c) ty22 rfl Bo om om rfl) (Dr 14 rfl (Ac rfl) (Dr 15 rfl (Bg rfl) (Dr 16 rfl (Aa fld339_0 rfl) (Dr 17 rfl (As ty337) ?_)))))
   refine Dr 18 rfl (B3 B7 rfl) (Ds1 19 (Se1 rfl (B1 (α:=Int) (cs:=[_]) (xs:=[((hs.length:Nat):Int)]) Am ty3 rfl rfl dc dc rfl rfl rfl rfl) fun ad39=>?_))
   refine Ds1 20 (Se2 rfl (B2 (α:=Int) (e:=3) (xs:=(at_ rs ((at_ n.arcs (k:Int)).frm)).xs) (ys:=([((hs.length:Nat):Int)]:List Int)) Am ty3 rfl rfl rfl (by repeat (first|exact rowsI_mem (rs:=rs) (i:=((at_ n.arcs (k:Int)).frm)) om om|apply List.mem_cons_of_mem)) Bo lcn dc rfl (fun _ _=>(by repeat (first|exact At.rows (rs:=rs) (i:=((at_ n.arcs (k:Int)).frm)) om om|apply At.tail)))) fun ad40 cp41=>?_)
   show D Tryz.prog κ _ _ _ _ _ _ _ ([(46,.slice ad40 ((at_ rs ((at_ n.arcs (k:Int)).frm)).xs++([((hs.length:Nat):Int)]:List Int)).length cp41),(45,.slice ad39 1 1),(44,I64 (((hs.length:Nat):Int))),(43,.slice ah hs.length ch),(42,.pointer (some ⟨b,0,none⟩)),(41,.pointer (some ⟨b,0,none⟩)),(40,.pointer (some ⟨b,0,none⟩)),(39,.slice (at_ rs ((at_ n.arcs (k:Int)).frm)).a (at_ rs ((at_ n.arcs (k:Int)).frm)).xs.length (at_ rs ((at_ n.arcs (k:Int)).frm)).c),(38,elemPtr (.slice ao (List.replicate n.nodes.toNat (default:Row)).length co) (((at_ n.arcs (k:Int)).frm).toNat*Enc.sz Row)),(37,I64 ((at_ n.arcs (k:Int)).frm)),(36,.pointer (some ⟨b38,0,none⟩)),(35,.slice ao (List.replicate n.nodes.toNat (default:Row)).length co),(34,.pointer (some ⟨b,1,none⟩)),(33,.pointer (some ⟨b,0,none⟩)),(32,.pointer (some ⟨b,0,none⟩)),(31,I64 ((at_ n.arcs (k:Int)).frm)),(30,.pointer (some ⟨b38,0,none⟩)),(29,.slice ao (List.replicate n.nodes.toNat (default:Row)).length co),(28,.pointer (some ⟨b,1,none⟩)),(27,.pointer (some ⟨b,0,none⟩)),(26,.pointer (some ⟨b,0,none⟩)),(5,.pointer (some ⟨b38,0,none⟩)),(25,.agg #[I64 ((at_ n.arcs (k:Int)).frm),I64 ((at_ n.arcs (k:Int)).dst),I64 ((at_ n.arcs (k:Int)).cap)]),(24,elemPtr (v) (((k:Int)).toNat*Enc.sz Arc)),(23,.bool (decide ((k:Int)<((n.arcs.length:Nat):Int)))),(3,.pointer (some ⟨b,0,none⟩)),(20,v),(21,I64 (((n.arcs.length:Nat):Int))),(22,I64 ((k:Int)))]:Env) (vc 3 (.slice ad39 1 1) (([((hs.length:Nat):Int)]:List Int))::blk b38 [I64 ((at_ n.arcs (k:Int)).frm),I64 ((at_ n.arcs (k:Int)).dst),I64 ((at_ n.arcs (k:Int)).cap)] 305::vc 336 (.slice ah hs.length ch) (hs)::blk b [.slice ah hs.length ch,.slice ao (List.replicate n.nodes.toNat (default:Row)).length co,.slice al (List.replicate n.nodes.toNat (default:Int)).length cl,.slice an (List.replicate n.nodes.toNat (default:Int)).length cn,I64 (n.sink)] 339::vc 22 (.slice ao (List.replicate n.nodes.toNat (default:Row)).length co) (rs)::vc 3 (.slice al (List.replicate n.nodes.toNat (default:Int)).length cl) (List.replicate n.nodes.toNat (default:Int))::vc 3 (.slice an (List.replicate n.nodes.toNat (default:Int)).length cn) (List.replicate n.nodes.toNat (default:Int))::blk b1 [I64 (n.nodes),I64 (n.source),I64 (n.sink),v] 303::(rowsI (List.set rs ((at_ n.arcs (k:Int)).frm).toNat (⟨ad40,cp41,((at_ rs ((at_ n.arcs (k:Int)).frm)).xs++([((hs.length:Nat):Int)]:List Int))⟩:Row))++I))
   refine Dr 21 rfl (Ba (α:=Row) (xs:=rs) B8 ty22 rfl rfl Bo om om) (Dh kr ?_)
   refine Ae 22 rfl (Ds (α:=Row) (xs:=rs) (e:=22) (new:=(⟨ad40,cp41,((at_ rs ((at_ n.arcs (k:Int)).frm)).xs++([((hs.length:Nat):Int)]:List Int))⟩:Row)) ty22 rfl rfl rfl om om am) ?_
   rintro _ _ ⟨rfl,rfl⟩
   have hsl:(List.set rs ((at_ n.arcs (k:Int)).frm).toNat (⟨ad40,cp41,((at_ rs ((at_ n.arcs (k:Int)).frm)).xs++([((hs.length:Nat):Int)]:List Int))⟩:Row)).length=rs.length:=List.length_set
   have hsd:at_ (List.set rs ((at_ n.arcs (k:Int)).frm).toNat (⟨ad40,cp41,((at_ rs ((at_ n.arcs (k:Int)).frm)).xs++([((hs.length:Nat):Int)]:List Int))⟩:Row)) (at_ n.arcs (k:Int)).dst=at_ rs (at_ n.arcs (k:Int)).dst:=by rw [Dj rs _ _ _ hb.1.1 hb.2.1.1 om,if_neg hb.2.2.1]
   have hsx:(at_ (List.set rs ((at_ n.arcs (k:Int)).frm).toNat (⟨ad40,cp41,((at_ rs ((at_ n.arcs (k:Int)).frm)).xs++([((hs.length:Nat):Int)]:List Int))⟩:Row)) (at_ n.arcs (k:Int)).dst).xs.length≤2*k:=by rw [hsd];exact hb2
   refine Di kr ?_
   refine Ai (Ar (S5 5 3 20 21 22 rfl rfl rfl rfl rfl) (Av (Bk mixed (Bq (vc 3 (.slice ad39 1 1) (([((hs.length:Nat):Int)]:List Int))::blk b38 [I64 ((at_ n.arcs (k:Int)).frm),I64 ((at_ n.arcs (k:Int)).dst),I64 ((at_ n.arcs (k:Int)).cap)] 305::vc 336 (.slice ah hs.length ch) (hs)::blk b [.slice ah hs.length ch,.slice ao (List.replicate n.nodes.toNat (default:Row)).length co,.slice al (List.replicate n.nodes.toNat (default:Int)).length cl,.slice an (List.replicate n.nodes.toNat (default:Int)).length cn,I64 (n.sink)] 339::vc 22 (.slice ao (List.replicate n.nodes.toNat (default:Row)).length co) (List.set rs ((at_ n.arcs (k:Int)).frm).toNat (⟨ad40,cp41,((at_ rs ((at_ n.arcs (k:Int)).frm)).xs++([((hs.length:Nat):Int)]:List Int))⟩:Row))::vc 3 (.slice al (List.replicate n.nodes.toNat (default:Int)).length cl) (List.replicate n.nodes.toNat (default:Int))::vc 3 (.slice an (List.replicate n.nodes.toNat (default:Int)).length cn) (List.replicate n.nodes.toNat (default:Int))::blk b1 [I64 (n.nodes),I64 (n.source),I64 (n.sink),v] 303::I) 23 (Dr 0 rfl (Ac rfl) (Dr 1 rfl (Bg rfl) (Dr 2 rfl (Aa fld339_1 rfl) (Dr 3 rfl (As ty79) ?_))))))))
   refine Dr 4 rfl (Aa fld305_1 rfl) (Dr 5 rfl (As ty3) ?_)
   refine Dr 6 rfl (Ac rfl) (Dr 7 rfl (Bg rfl) (Dr 8 rfl (Aa fld339_1 rfl) (Dr 9 rfl (As ty79) ?_)))
   refine Dr 10 rfl (Aa fld305_1 rfl) (Dr 11 rfl (As ty3) ?_)
   refine Dr 12 rfl (Ba (α:=Row) (xs:=List.set rs ((at_ n.arcs (k:Int)).frm).toNat (⟨ad40,cp41,((at_ rs ((at_ n.arcs (k:Int)).frm)).xs++([((hs.length:Nat):Int)]:List Int))⟩:Row)) B8 ty22 rfl rfl Bo om om) (Dr 13 rfl (Ex (α:=Row) (xs:=List.set rs ((at_ n.arcs (k:Int)).frm).toNat (⟨ad40,cp41,((at_ rs ((at_ n.arcs (k:Int)).frm)).xs++([((hs.length:Nat):Int)]:List Int))⟩:Row)) (u:= .slice (at_ (List.set rs ((at_ n.arcs (k:Int)).frm).toNat (⟨ad40,cp41,((at_ rs ((at_ n.arcs (k:Int)).frm)).xs++([((hs.length:Nat):Int)]:List Int))⟩:Row)) ((at_ n.arcs (k:Int)).dst)).a (at_ (List.set rs ((at_ n.arcs (k:Int)).frm).toNat (⟨ad40,cp41,((at_ rs ((at_ n.arcs (k:Int)).frm)).xs++([((hs.length:Nat):Int)]:List Int))⟩:Row)) ((at_ n.arcs (k:Int)).dst)).xs.length (at_ (List.set rs ((at_ n.arcs (k:Int)).frm).toNat (⟨ad40,cp41,((at_ rs ((at_ n.arcs (k:Int)).frm)).xs++([((hs.length:Nat):Int)]:List Int))⟩:Row)) ((at_ n.arcs (k:Int)).dst)).c) ty22 rfl Bo om om rfl) (Dr 14 rfl (Ac rfl) (Dr 15 rfl (Bg rfl) (Dr 16 rfl (Aa fld339_0 rfl) (Dr 17 rfl (As ty337) ?_)))))
   refine Dr 18 rfl (B3 B7 rfl) (Dr 19 rfl (Rad rfl rfl) (Ds1 20 (Se1 rfl (B1 (α:=Int) (cs:=[_]) (xs:=[((hs.length:Nat):Int)+1]) Am ty3 rfl rfl dc dc rfl rfl rfl rfl) fun ad42=>?_)))
   refine Ds1 21 (Se2 rfl (B2 (α:=Int) (e:=3) (xs:=(at_ (List.set rs ((at_ n.arcs (k:Int)).frm).toNat (⟨ad40,cp41,((at_ rs ((at_ n.arcs (k:Int)).frm)).xs++([((hs.length:Nat):Int)]:List Int))⟩:Row)) ((at_ n.arcs (k:Int)).dst)).xs) (ys:=([((hs.length:Nat):Int)+1]:List Int)) Am ty3 rfl rfl rfl (by repeat (first|exact rowsI_mem (rs:=(List.set rs ((at_ n.arcs (k:Int)).frm).toNat (⟨ad40,cp41,((at_ rs ((at_ n.arcs (k:Int)).frm)).xs++([((hs.length:Nat):Int)]:List Int))⟩:Row))) (i:=((at_ n.arcs (k:Int)).dst)) om om|apply List.mem_cons_of_mem)) Bo lcn dc rfl (fun _ _=>(by repeat (first|exact At.rows (rs:=(List.set rs ((at_ n.arcs (k:Int)).frm).toNat (⟨ad40,cp41,((at_ rs ((at_ n.arcs (k:Int)).frm)).xs++([((hs.length:Nat):Int)]:List Int))⟩:Row))) (i:=((at_ n.arcs (k:Int)).dst)) om om|apply At.tail)))) fun ad43 cp44=>?_)
   show D Tryz.prog κ _ _ _ _ _ _ _ ([(69,.slice ad43 ((at_ (List.set rs ((at_ n.arcs (k:Int)).frm).toNat (⟨ad40,cp41,((at_ rs ((at_ n.arcs (k:Int)).frm)).xs++([((hs.length:Nat):Int)]:List Int))⟩:Row)) ((at_ n.arcs (k:Int)).dst)).xs++([((hs.length:Nat):Int)+1]:List Int)).length cp44),(68,.slice ad42 1 1),(67,I64 (((hs.length:Nat):Int)+1)),(66,I64 (((hs.length:Nat):Int))),(65,.slice ah hs.length ch),(64,.pointer (some ⟨b,0,none⟩)),(63,.pointer (some ⟨b,0,none⟩)),(62,.pointer (some ⟨b,0,none⟩)),(61,.slice (at_ (List.set rs ((at_ n.arcs (k:Int)).frm).toNat (⟨ad40,cp41,((at_ rs ((at_ n.arcs (k:Int)).frm)).xs++([((hs.length:Nat):Int)]:List Int))⟩:Row)) ((at_ n.arcs (k:Int)).dst)).a (at_ (List.set rs ((at_ n.arcs (k:Int)).frm).toNat (⟨ad40,cp41,((at_ rs ((at_ n.arcs (k:Int)).frm)).xs++([((hs.length:Nat):Int)]:List Int))⟩:Row)) ((at_ n.arcs (k:Int)).dst)).xs.length (at_ (List.set rs ((at_ n.arcs (k:Int)).frm).toNat (⟨ad40,cp41,((at_ rs ((at_ n.arcs (k:Int)).frm)).xs++([((hs.length:Nat):Int)]:List Int))⟩:Row)) ((at_ n.arcs (k:Int)).dst)).c),(60,elemPtr (.slice ao (List.replicate n.nodes.toNat (default:Row)).length co) (((at_ n.arcs (k:Int)).dst).toNat*Enc.sz Row)),(59,I64 ((at_ n.arcs (k:Int)).dst)),(58,.pointer (some ⟨b38,1,none⟩)),(57,.slice ao (List.replicate n.nodes.toNat (default:Row)).length co),(56,.pointer (some ⟨b,1,none⟩)),(55,.pointer (some ⟨b,0,none⟩)),(54,.pointer (some ⟨b,0,none⟩)),(53,I64 ((at_ n.arcs (k:Int)).dst)),(52,.pointer (some ⟨b38,1,none⟩)),(51,.slice ao (List.replicate n.nodes.toNat (default:Row)).length co),(50,.pointer (some ⟨b,1,none⟩)),(49,.pointer (some ⟨b,0,none⟩)),(48,.pointer (some ⟨b,0,none⟩)),(5,.pointer (some ⟨b38,0,none⟩)),(3,.pointer (some ⟨b,0,none⟩)),(20,v),(21,I64 (((n.arcs.length:Nat):Int))),(22,I64 ((k:Int)))]:Env) (vc 3 (.slice ad42 1 1) (([((hs.length:Nat):Int)+1]:List Int))::vc 3 (.slice ad39 1 1) (([((hs.length:Nat):Int)]:List Int))::blk b38 [I64 ((at_ n.arcs (k:Int)).frm),I64 ((at_ n.arcs (k:Int)).dst),I64 ((at_ n.arcs (k:Int)).cap)] 305::vc 336 (.slice ah hs.length ch) (hs)::blk b [.slice ah hs.length ch,.slice ao (List.replicate n.nodes.toNat (default:Row)).length co,.slice al (List.replicate n.nodes.toNat (default:Int)).length cl,.slice an (List.replicate n.nodes.toNat (default:Int)).length cn,I64 (n.sink)] 339::vc 22 (.slice ao (List.replicate n.nodes.toNat (default:Row)).length co) (List.set rs ((at_ n.arcs (k:Int)).frm).toNat (⟨ad40,cp41,((at_ rs ((at_ n.arcs (k:Int)).frm)).xs++([((hs.length:Nat):Int)]:List Int))⟩:Row))::vc 3 (.slice al (List.replicate n.nodes.toNat (default:Int)).length cl) (List.replicate n.nodes.toNat (default:Int))::vc 3 (.slice an (List.replicate n.nodes.toNat (default:Int)).length cn) (List.replicate n.nodes.toNat (default:Int))::blk b1 [I64 (n.nodes),I64 (n.source),I64 (n.sink),v] 303::(rowsI (List.set (List.set rs ((at_ n.arcs (k:Int)).frm).toNat (⟨ad40,cp41,((at_ rs ((at_ n.arcs (k:Int)).frm)).xs++([((hs.length:Nat):Int)]:List Int))⟩:Row)) ((at_ n.arcs (k:Int)).dst).toNat (⟨ad43,cp44,((at_ (List.set rs ((at_ n.arcs (k:Int)).frm).toNat (⟨ad40,cp41,((at_ rs ((at_ n.arcs (k:Int)).frm)).xs++([((hs.length:Nat):Int)]:List Int))⟩:Row)) ((at_ n.arcs (k:Int)).dst)).xs++([((hs.length:Nat):Int)+1]:List Int))⟩:Row))++I))
   refine Dr 22 rfl (Ba (α:=Row) (xs:=List.set rs ((at_ n.arcs (k:Int)).frm).toNat (⟨ad40,cp41,((at_ rs ((at_ n.arcs (k:Int)).frm)).xs++([((hs.length:Nat):Int)]:List Int))⟩:Row)) B8 ty22 rfl rfl Bo om om) (Dh kr ?_)
   refine Ae 23 rfl (Ds (α:=Row) (xs:=List.set rs ((at_ n.arcs (k:Int)).frm).toNat (⟨ad40,cp41,((at_ rs ((at_ n.arcs (k:Int)).frm)).xs++([((hs.length:Nat):Int)]:List Int))⟩:Row)) (e:=22) (new:=(⟨ad43,cp44,((at_ (List.set rs ((at_ n.arcs (k:Int)).frm).toNat (⟨ad40,cp41,((at_ rs ((at_ n.arcs (k:Int)).frm)).xs++([((hs.length:Nat):Int)]:List Int))⟩:Row)) ((at_ n.arcs (k:Int)).dst)).xs++([((hs.length:Nat):Int)+1]:List Int))⟩:Row)) ty22 rfl rfl rfl om om am) ?_
   rintro _ _ ⟨rfl,rfl⟩
   refine Di kr ?_
   refine Ai (Ar (S5 5 3 20 21 22 rfl rfl rfl rfl rfl) (Bk mixed (Bq (vc 3 (.slice ad42 1 1) (([((hs.length:Nat):Int)+1]:List Int))::vc 3 (.slice ad39 1 1) (([((hs.length:Nat):Int)]:List Int))::blk b38 [I64 ((at_ n.arcs (k:Int)).frm),I64 ((at_ n.arcs (k:Int)).dst),I64 ((at_ n.arcs (k:Int)).cap)] 305::blk b [.slice ah hs.length ch,.slice ao (List.replicate n.nodes.toNat (default:Row)).length co,.slice al (List.replicate n.nodes.toNat (default:Int)).length cl,.slice an (List.replicate n.nodes.toNat (default:Int)).length cn,I64 (n.sink)] 339::vc 22 (.slice ao (List.replicate n.nodes.toNat (default:Row)).length co) (List.set (List.set rs ((at_ n.arcs (k:Int)).frm).toNat (⟨ad40,cp41,((at_ rs ((at_ n.arcs (k:Int)).frm)).xs++([((hs.length:Nat):Int)]:List Int))⟩:Row)) ((at_ n.arcs (k:Int)).dst).toNat (⟨ad43,cp44,((at_ (List.set rs ((at_ n.arcs (k:Int)).frm).toNat (⟨ad40,cp41,((at_ rs ((at_ n.arcs (k:Int)).frm)).xs++([((hs.length:Nat):Int)]:List Int))⟩:Row)) ((at_ n.arcs (k:Int)).dst)).xs++([((hs.length:Nat):Int)+1]:List Int))⟩:Row))::vc 3 (.slice al (List.replicate n.nodes.toNat (default:Int)).length cl) (List.replicate n.nodes.toNat (default:Int))::vc 3 (.slice an (List.replicate n.nodes.toNat (default:Int)).length cn) (List.replicate n.nodes.toNat (default:Int))::blk b1 [I64 (n.nodes),I64 (n.source),I64 (n.sink),v] 303::(rowsI (List.set (List.set rs ((at_ n.arcs (k:Int)).frm).toNat (⟨ad40,cp41,((at_ rs ((at_ n.arcs (k:Int)).frm)).xs++([((hs.length:Nat):Int)]:List Int))⟩:Row)) ((at_ n.arcs (k:Int)).dst).toNat (⟨ad43,cp44,((at_ (List.set rs ((at_ n.arcs (k:Int)).frm).toNat (⟨ad40,cp41,((at_ rs ((at_ n.arcs (k:Int)).frm)).xs++([((hs.length:Nat):Int)]:List Int))⟩:Row)) ((at_ n.arcs (k:Int)).dst)).xs++([((hs.length:Nat):Int)+1]:List Int))⟩:Row))++I)) 19 (Dr 0 rfl (Ac rfl) (Dr 1 rfl (Ac rfl) (Dr 2 rfl (Bg rfl) (Dr 3 rfl (Aa fld339_0 rfl) (Dr 4 rfl (As ty337) ?_))))))))
   refine Dr 5 rfl (Bm (vs:=[_,_,_]) ty305) ?_
   refine Dr 6 rfl (Aa fld305_2 rfl) (Dr 7 rfl (As ty3) ?_)
   refine Dr 8 rfl (Bc (cells:=[_,_,_,_]) ty336 Tryz.underlying336 pl336 rfl rfl) (Dr 9 rfl (Aa fld305_1 rfl) (Dr 10 rfl (As ty3) ?_))
   refine Dr 11 rfl (Aa fld305_0 rfl) (Dr 12 rfl (As ty3) ?_)
   refine Dr 13 rfl (Bc (cells:=[_,_,_]) ty305 Tryz.underlying305 pl305 rfl rfl) (Dr 14 rfl (Bc (cells:=[_,_,_,_]) ty336 Tryz.underlying336 pl336 rfl rfl) (Ds1 15 (Se1 rfl (B1 (α:=Half) (cs:=[I64 ((at_ n.arcs (k:Int)).frm),I64 ((at_ n.arcs (k:Int)).dst),I64 ((at_ n.arcs (k:Int)).cap),I64 ((at_ n.arcs (k:Int)).cap),I64 ((at_ n.arcs (k:Int)).dst),I64 ((at_ n.arcs (k:Int)).frm),I64 (0),I64 (0)]) (xs:=[⟨(at_ n.arcs (k:Int)).frm,(at_ n.arcs (k:Int)).dst,(at_ n.arcs (k:Int)).cap,(at_ n.arcs (k:Int)).cap⟩,⟨(at_ n.arcs (k:Int)).dst,(at_ n.arcs (k:Int)).frm,0,0⟩]) B7 ty336 rfl rfl dc dc rfl kr rfl rfl) fun ad45=>?_)))
   refine Ds1 16 (Se2 rfl (B2 (α:=Half) (e:=336) (xs:=hs) (ys:=([⟨(at_ n.arcs (k:Int)).frm,(at_ n.arcs (k:Int)).dst,(at_ n.arcs (k:Int)).cap,(at_ n.arcs (k:Int)).cap⟩,⟨(at_ n.arcs (k:Int)).dst,(at_ n.arcs (k:Int)).frm,0,0⟩]:List Half)) B7 ty336 rfl rfl rfl mm Bo lcn dc rfl (fun _ _=>am)) fun ad46 cp47=>?_)
   refine Ds1 17 (Sr rfl (Bg rfl) A4 ?_)
   refine Dr 18 rfl (Aa fld339_0 rfl) (Dh kr ?_)
   refine Ae 19 rfl (Dq (cs:=[_,_,_,_,_]) (vs:=[_]) (cs':=[_,_,_,_,_]) ty337) ?_
   rintro _ _ ⟨rfl,rfl⟩
   refine Di kr ?_
   exact Al (Ai (Ar (S4 3 20 21 22 rfl rfl rfl rfl) (A2 (Gr (Rad rfl rfl) (Gm rfl (Be (B0 ((k+1),(ad46),(cp47),(hs++([⟨(at_ n.arcs (k:Int)).frm,(at_ n.arcs (k:Int)).dst,(at_ n.arcs (k:Int)).cap,(at_ n.arcs (k:Int)).cap⟩,⟨(at_ n.arcs (k:Int)).dst,(at_ n.arcs (k:Int)).frm,0,0⟩]:List Half)),(List.set (List.set rs ((at_ n.arcs (k:Int)).frm).toNat (⟨ad40,cp41,((at_ rs ((at_ n.arcs (k:Int)).frm)).xs++([((hs.length:Nat):Int)]:List Int))⟩:Row)) ((at_ n.arcs (k:Int)).dst).toNat (⟨ad43,cp44,((at_ (List.set rs ((at_ n.arcs (k:Int)).frm).toNat (⟨ad40,cp41,((at_ rs ((at_ n.arcs (k:Int)).frm)).xs++([((hs.length:Nat):Int)]:List Int))⟩:Row)) ((at_ n.arcs (k:Int)).dst)).xs++([((hs.length:Nat):Int)+1]:List Int))⟩:Row))) (by dsimp only;exact ⟨om,(hO.step hok om _ _ _ _ om om rfl rfl)⟩))))))))
  ·refine Bt (Aq (Aq (A9 (Ai (Ah (Gm rfl (Ga rfl (Af (Ay ?_)))))))))
   have hdn:=hO.done hok om
   exact A0 rfl rfl (blk b [.slice ah hs.length ch,.slice ao (List.replicate n.nodes.toNat (default:Row)).length co,.slice al (List.replicate n.nodes.toNat (default:Int)).length cl,.slice an (List.replicate n.nodes.toNat (default:Int)).length cn,I64 (n.sink)] 339::vc 336 (.slice ah hs.length ch) (hs)::vc 3 (.slice al (List.replicate n.nodes.toNat (default:Int)).length cl) (List.replicate n.nodes.toNat (default:Int))::vc 3 (.slice an (List.replicate n.nodes.toNat (default:Int)).length cn) (List.replicate n.nodes.toNat (default:Int))::vc 22 (.slice ao (List.replicate n.nodes.toNat (default:Row)).length co) (rs)::(rowsI rs++I)) Bz ⟨_,_,_,_,_,hs,rs,(List.replicate n.nodes.toNat (default:Int)),(List.replicate n.nodes.toNat (default:Int)),rfl,⟨hdn.1,hdn.2,by rw [List.length_replicate];omega,by rw [List.length_replicate];omega⟩,rfl⟩
theorem Solved_ok{κ:Ctx}{I:List Item}{n:Net}{v:Value}(hl:Sl κ I v n.arcs)(hok:n.Ok) :
    CallS Tryz.prog κ 317 [.agg #[I64 (n.nodes),I64 (n.source),I64 (n.sink),v]] I (fun r J=>∃(b:Nat) (hw ow lw nw:Value) (f:List Int) (hs:List Half) (rs:List Row) (L nx:List Int) (val:Int),r = .tuple #[.pointer (some ⟨b,0,none⟩),I64 val]∧(Full n f val∧HOk n f hs∧ROk n (rowsL rs))∧J=blk b [hw,ow,lw,nw,I64 (n.sink)] 339::vc 336 (hw) (hs)::vc 3 (lw) (L)::vc 3 (nw) (nx)::(vc 22 ow rs::(rowsI rs++I))):=by
 refine Ce1 Tryz.func317 rfl rfl ?_
 refine Ah (Ge1 (Bb (cs:=[_,_,_,_]) rfl rfl rfl) fun b1=>Ga rfl (Ga rfl (Af (Ah (Gl4 ty303 ?_)))))
 refine G.e (Aj call335 rfl rfl (Open_ok (n:=n) (Bl hl) hok)) ?_
 rintro _ _ ⟨_,_,⟨b,hw,ow,lw,nw,hs,rs,L,nx,rfl,⟨hh,hr,hL,hN⟩,rfl⟩,rfl,rfl⟩
 refine G.fit (J:=blk b [hw,ow,lw,nw,I64 (n.sink)] 339::vc 336 (hw) (hs)::vc 3 (lw) (L)::vc 3 (nw) (nx)::vc 22 (ow) (rs)::blk b1 [I64 (n.nodes),I64 (n.source),I64 (n.sink),v] 303::(rowsI rs++I)) Bz ?_
 refine Ga rfl (Af (Ah (Gm rfl (Gm rfl (Gf fld303_1 rfl (Gl ty3 ?_))))))
 refine G.e (Aj call336 rfl rfl (Greatest_ok (n:=n) hok hh hr Bo (fun i h0 h=>Cj (rowsI_sl i h0 h) A1) hL hN (flow_zero n hok).1 (flow_zero n hok).2)) ?_
 rintro _ _ ⟨_,_,⟨val,f,hs2,L2,nx2,rfl,⟨hfull,hh2⟩,rfl⟩,rfl,rfl⟩
 show G Tryz.prog κ _ _ _ _ ([(11,I64 (val)),(10,I64 (n.source)),(9,.pointer (some ⟨b1,1,none⟩)),(8,.pointer (some ⟨b,0,none⟩)),(7,.pointer (some ⟨b,0,none⟩)),(4,.pointer (some ⟨b,0,none⟩)),(6,.pointer (some ⟨b,0,none⟩)),(5,.agg #[I64 (n.nodes),I64 (n.source),I64 (n.sink),v]),(3,I64 (0)),(2,.pointer none),(1,.pointer (some ⟨b1,0,none⟩)),(0,.agg #[I64 (n.nodes),I64 (n.source),I64 (n.sink),v])]:Env) (blk b [hw,ow,lw,nw,I64 (n.sink)] 339::vc 336 (hw) (hs2)::vc 3 (lw) (L2)::vc 3 (nw) (nx2)::vc 22 (ow) (rs)::blk b1 [I64 (n.nodes),I64 (n.source),I64 (n.sink),v] 303::(rowsI rs++I))
 exact Ga rfl (Ga rfl (Af (Ar (S2 3 2 rfl rfl) (Ay (Ct rfl rfl rfl (blk b [hw,ow,lw,nw,I64 (n.sink)] 339::vc 336 (hw) (hs2)::vc 3 (lw) (L2)::vc 3 (nw) (nx2)::vc 22 (ow) (rs)::(rowsI rs++I)) Bz ⟨b,hw,ow,lw,nw,f,hs2,rs,L2,nx2,val,rfl,⟨hfull,hh2,hr⟩,rfl⟩)))))
end Go.Sl
namespace Go.Sl
end Go.Sl
namespace Go.Sl
end Go.Sl
namespace Go.Sl
open Go.Proofs
set_option maxRecDepth 4000
variable {κ:Ctx}{I:List Item}
theorem tz_small(m:BitVec 64):0≤tzTab.getD (tzIx m) 0∧tzTab.getD (tzIx m) 0≤64:=by
 have h:∀k:Fin 64,0≤tzTab.getD k.val 0∧tzTab.getD k.val 0≤64:=by decide+kernel
 exact h ⟨tzIx m,tzIx_lt m⟩
theorem Tz_ok(m:BitVec 64)(hT:TabRd κ I 0 tzCells) :
    CallS Tryz.prog κ 234 [U64 (m)] I (fun r J=>r=I64 (tzB m)∧I=J):=by
 refine Ce1 Tryz.func234 rfl rfl ?_
 refine Ah (Ga rfl (Af (Av (Ah (Gm rfl (Gr (Runs.eqB (a:=m) (b:=0#64) rfl rfl) (Af (A6 rfl (fun c4=>?_) (fun c4=>?_)))))))))
 ·exact Ah (Ga rfl (Af (Ay (Ad (A0 rfl rfl (I) A1 ⟨by unfold tzB;rw [if_pos c4],rfl⟩)))))
 ·exact Az (Ai (Ah (Gm rfl (Gm rfl (Gr (Runs.negB (a:=m) rfl) (Gr (Es (a:=m) (b:= -m) rfl rfl) (Gr (Runs.mulB (a:=m &&& (-m)) (b:=285870213051353865#64) rfl rfl) (Gr (Runs.shrB (a:=(m &&& (-m))*285870213051353865#64) rfl rfl om om) (Gr (Runs.idxArrU (i:=tzIx m) Tryz.underlying310 ty5 rfl rfl (tzIx_lt m)) (Gr (Runs.loadTab ty5 rfl (Cv hT A1) (tzCells_at m)) (Gr (Runs.convI Tryz.underlying5 Bf rfl (by unfold InR;have:=tz_small m;omega)) (Ga rfl (Af (Ar (S1 2 rfl) (Ay (A0 rfl rfl (I) A1 ⟨by unfold tzB;rw [if_neg c4],rfl⟩))))))))))))))))
theorem MList_ok(m:BitVec 64)(hT:TabRd κ I 0 tzCells) :
    CallS Tryz.prog κ 171 [U64 (m)] I (fun r J=>∃a c,r = .slice a (listB m).length c∧J=vc 3 (.slice a (listB m).length c) (listB m)::I):=by
 refine Ce1 Tryz.func171 rfl rfl ?_
 refine Ah (Ga rfl (Af (Ah (Ga rfl (Af (Av (A5 (Bv (σ:=(BitVec 64)×(Option Addr)×Nat×(List Int)) (fun s=>([(0,U64 (s.1)),(3,.slice s.2.1 s.2.2.2.length s.2.2.1)]:Env)) (fun s=>vc 3 (.slice s.2.1 s.2.2.2.length s.2.2.1) (s.2.2.2)::I) (fun s=>(listB m=s.2.2.2++listB s.1)) (fun s=>(listB s.1).length) (m,none,0,[]) (show (listB m=([]:List Int)++listB (m:BitVec 64)) from rfl) (Ab (Db rfl (by first|rfl|simp)) (Ab (Db rfl (by first|rfl|simp)) Bp)) (show Fit κ _ (vc 3 (.slice (none) ([]).length (0)) (([]))::I) from (Bw _ _)) ?_))))))))
 rintro ⟨n,a,c,out⟩ hp
 dsimp only at hp ⊢
 have ho:=hp
 have hol:=congrArg List.length ho
 rw [List.length_append] at hol
 have hml:=D8 m
 refine Av (Ah (Gm rfl (Gr (Runs.neB (a:=n) (b:=0#64) rfl rfl) (Af (A6 rfl (fun c5=>?_) (fun c5=>?_))))))
 ·refine Az (Ai (Av (A5 (A2 (Gm rfl (Gm rfl (G.e (Aj call234 rfl rfl (Tz_ok n (Cv hT A1))) ?_)))))))
  rintro _ _ ⟨_,_,⟨rfl,rfl⟩,rfl,rfl⟩
  refine Ge1 (B1 (α:=Int) (cs:=[_]) (xs:=[tzB n]) Am ty3 rfl rfl dc dc rfl rfl rfl rfl) fun ad1=>?_
  refine Ge2 (B2 (α:=Int) (e:=3) (xs:=out) (ys:=([tzB n]:List Int)) Am ty3 rfl rfl rfl mm Bo lcn dc rfl (fun _ _=>am)) fun ad2 cp3=>?_
  exact Ga rfl (Be (Al (Ai (A2 (Gm rfl (Gm rfl (Gr (Runs.subB (a:=n) (b:=1#64) rfl rfl) (Gr (Es (a:=n) (b:=n - (1#64)) rfl rfl) (Ga rfl (Be (B0 ((n &&& (n - (1#64))),(ad2),(cp3),(out++([tzB n]:List Int))) (by dsimp only;exact (by rw [ho,listB_step c5,List.append_assoc];rfl)) (hlt:=by (try dsimp only);exact (listB_less c5)))))))))))))
 ·refine Bt (Aq (Aq (A9 (Ai (Ah (Gm rfl (Ga rfl (Af (Ay ?_)))))))))
  have hn0:n=0#64:=Classical.not_not.1 c5
  have hE:out=listB m:=by rw [ho,hn0,Cx,List.append_nil]
  subst hE
  exact A0 rfl rfl (vc 3 (.slice a (listB m).length c) (listB m)::I) A4 ⟨a,c,rfl,rfl⟩
end Go.Sl
namespace Go.Sl
end Go.Sl
namespace Go.Sl
end Go.Sl
namespace Go.Sl
end Go.Sl
