/- A part of the proofs of statements of this seat: contracts of functions, and the plain laws that they lean on. No conditions. -/
import Derived.Test.YtoagcglbkeomgaaGreatDoorE27
set_option linter.unusedVariables false
set_option linter.unusedSimpArgs false
set_option linter.unusedSectionVars false
open Go.Proofs.Tryz (prog)
set_option maxHeartbeats 4000000
namespace Go.Sl
open Go.Proofs
set_option maxRecDepth 4000
variable{κ:Ctx}{I T:List Item}
attribute [local irreducible] W G V D A j7 Eff
section
variable {nd kd wd mo bd:Int}{k:EnS}{e:Ev}
theorem co4(h:az1 nd kd wd mo bd k)(he:J1 nd e)(ht:k.b.mr<e.tm):(k.b.out bd e).Pairwise (λa b=>a.tm<=b.tm)/\∀x∈k.b.out bd e,J1 nd x/\k.tm<=x.tm:=by
 obtain ⟨h1,h2⟩:=h.buf.out (e:=e) ht
 refine ⟨h2,λx M=>?_⟩
 have h3:J1 nd x:=by
  rcases mem_push.1 (ba0.1 M).1 with rfl|h4
  ·exact he
  exact h.fit x h4
 have h4:=h1 x M
 have h5:=h.tm
 have h6:=h3.tm
 exact ⟨h3,by omega⟩
theorem di8(h:az1 nd kd wd mo bd k):k.b.ws.Pairwise (λa b=>a.tm<=b.tm)/\∀x∈k.b.ws,J1 nd x/\k.tm<=x.tm:=by
 refine ⟨h.buf.asc,λx M=>?_⟩
 have h3:=h.fit x M
 have h4:=h.buf.rng x M
 have h5:=h.tm
 have h6:=h3.tm
 exact ⟨h3,by omega⟩
theorem de6(s:BfS)(bd:Int)(e:Ev):(s.out bd e).length<=s.ws.length+1:=by
 unfold BfS.out ao7
 exact Hc (Gw _ _)<|by rw [ab8];exact Gg _
theorem bw7(s:BfS)(bd:Int)(e:Ev):(s.push bd e).ws.length<=s.ws.length+1:=by
 unfold BfS.push beyond
 exact Hc (Gw _ _)<|by rw [ab8];exact Gg _
end
theorem fs1{nd kd wd mo bd:Int}{k:EnS}{v:KpV}(hH:Has I T)(hF:KpF κ T nd k v)(hK:az1 nd kd wd mo bd k)(au:k.b.ws.length<=4000){xe:Ev}(hx:J1 nd xe)(ht:k.b.mr<xe.tm)(hT:F4 κ I 0 p5):eu prog κ 17 [.agg (kx kd wd mo bd nd k v).toArray,.agg (ez xe).toArray] I (λr J=>∃(v':KpV) (Y:List Item) (a:Option Addr) (c:Nat),r = .tuple #[.agg (kx kd wd mo bd nd ((k.feed kd wd mo bd xe)) v').toArray,.slice a ((k.cn3 kd wd mo bd xe)).length c,e7 0]/\KpF κ (Y++T) nd (k.feed kd wd mo bd xe) v'/\Sl κ (Y++T) (.slice a ((k.cn3 kd wd mo bd xe)).length c) (k.cn3 kd wd mo bd xe)/\J=Y++I):=by
 have aq:=co4 hK hx ht
 refine Ce2 Tryz.func17 C C ?_
 refine Am<|Ge1 (Au (cs:=[_,_,_,_,_,_,_,_,_,_,_,_,_,_,_,_,_,_,_,_,_,_,_,_,_]) C C C) λb1=>Ge1 (Au (cs:=[_,_,_,_,_,_,_]) C C C) λb2=>Ge1 (Aj H3 C) λb3=>Z ?_
 refine Gc0 (Ac c_ C C<|ak0 (k:=k) (v:=v) (KpF.fit hF<|B3 (κ:=κ)<|by repeat (first|exact hH|exact Bh _|apply Bg|apply B1|apply Bo)) hK.v om<|A6 hT Ah)<|Z ?_
 refine G.e (Ac c_ C C<|ab3 xe) ?_
 rintro _ _ ⟨_,_,⟨rfl,rfl⟩,rfl,rfl⟩
 refine Z ?_
 refine A0 (S5 18 7 4 3 2)<|Al C (λar=>?_)<|λar=>?_
 ·exact absurd hx.chk ar
 refine Bc<|Ao<|Ay<|Am<|Gr (j7.lj H3) ?_
 refine Gl7 z6 ?_
 refine Gc0 (Ac c_ C C<|bt8 (nd:=nd) (e:=xe) hx) ?_
 refine Gr (Fa C)<|Ar<|W.no C<|Bc<|Ao<|Am<|Gf aw4 C<|Gl4 J4 ?_
 refine Gl7 z6 ?_
 refine G.e (Ac c_ C C<|fh1 (T:=T) (bf:=k.b) (e:=xe) ta2 hF.w hK.buf om hx.chk ht hx.tm om) ?_
 rintro _ _ ⟨_,_,⟨ab,aa,ak,ah,Y4,rfl,an,ap,rfl⟩,rfl,rfl⟩
 refine Ds (J:=e8 b3 zk 47::e8 b2 (ez xe) 54::e8 b1 (kx kd wd mo bd nd k v) 47::(Y4++I)) (Cj<|C0 (A:=Y4) (L:=[e8 b3 zk 47,e8 b2 (ez xe) 54,e8 b1 (kx kd wd mo bd nd k v) 47]) (T:=I)) ?_
 show G prog κ _ _ _ _ ([(30,.tuple #[.agg #[e7 bd,e7<|(k.b.push bd xe).lt,e7<|(k.b.push bd xe).mr,.slice ab (k.b.push bd xe).ws.length aa],.slice ak ((k.b.out bd xe)).length ah,e7 0]),(29,.agg (ez xe).toArray),(28,.agg #[e7 bd,e7<|k.b.lt,e7<|k.b.mr,.slice v.w.a k.b.ws.length v.w.c]),(27,.pointer<|some ⟨b1,3,none⟩),(24,.bool false),(23,.bool true),(22,.agg (ez xe).toArray),(21,.agg (kx kd wd mo bd nd k v).toArray),(18,.bool<|decide<|(z7 xe)≠0),(7,e7<|z7 xe),(4,pt b3),(3,pt b2),(2,pt b1)]:Env) (e8 b3 zk 47::e8 b2 (ez xe) 54::e8 b1 (kx kd wd mo bd nd k v) 47::(Y4++I))
 refine Z ?_
 refine Ge1 (Aj J4 C) λb9=>Ge0 (C7 J4) ?_
 refine Ga C<|Ga C<|Ar<|A0 (S5 10 9 8 4 2)<|Ay<|Am<|Gm C<|Gr (Ci C C)<|Ar<|Al C (λao=>?_)<|λao=>?_
 ·exact absurd ao dc
 refine Bc<|Ao<|Am<|Gr (j7.lj H3) ?_
 refine Gl4 J4 ?_
 refine Gm C<|G.e (Ac c_ C C<|bg7 (T:=(Y4++T)) (k:=k) (v:=v) (bf:=(k.b.push bd xe)) (evs:=(k.b.out bd xe)) ta2 (KpF.fit hF<|Bu _ _) hK an ap aq.1 aq.2 (by have h9:=bw7 k.b bd xe;omega) (by have h9:=de6 k.b bd xe;omega)<|A6 hT Ah) ?_
 rintro _ _ ⟨_,_,⟨M,Y11,ad,ae,rfl,aj,ai,rfl⟩,rfl,rfl⟩
 refine Ds (J:=e8 b9 [e7 bd,e7<|(k.b.push bd xe).lt,e7<|(k.b.push bd xe).mr,.slice ab (k.b.push bd xe).ws.length aa] 32::e8 b3 zk 47::e8 b2 (ez xe) 54::e8 b1 (kx kd wd mo bd nd k v) 47::(Y11++(Y4++I))) (Cj<|C0 (A:=Y11) (L:=[e8 b9 [e7 bd,e7<|(k.b.push bd xe).lt,e7<|(k.b.push bd xe).mr,.slice ab (k.b.push bd xe).ws.length aa] 32,e8 b3 zk 47,e8 b2 (ez xe) 54,e8 b1 (kx kd wd mo bd nd k v) 47]) (T:=(Y4++I))) ?_
 show G prog κ _ _ _ _ ([(41,.tuple #[.agg (kx kd wd mo bd nd ((k.rel kd wd mo (k.b.push bd xe)<|k.b.out bd xe)) M).toArray,.slice ad ((X7 kd wd mo k.S<|k.b.out bd xe).2).length ae,e7 0]),(40,.slice ak ((k.b.out bd xe)).length ah),(39,.agg #[e7 bd,e7<|(k.b.push bd xe).lt,e7<|(k.b.push bd xe).mr,.slice ab (k.b.push bd xe).ws.length aa]),(38,.agg (kx kd wd mo bd nd k v).toArray),(35,.bool<|decide<|0≠0),(34,e7 0),(10,e7 0),(9,.slice ak ((k.b.out bd xe)).length ah),(8,pt b9),(4,pt b3),(2,pt b1)]:Env) (e8 b9 [e7 bd,e7<|(k.b.push bd xe).lt,e7<|(k.b.push bd xe).mr,.slice ab (k.b.push bd xe).ws.length aa] 32::e8 b3 zk 47::e8 b2 (ez xe) 54::e8 b1 (kx kd wd mo bd nd k v) 47::(Y11++(Y4++I)))
 refine Z ?_
 refine Ge0 (Eff.sq H3)<|Z ?_
 exact Cu C H3 C C C mm C (((Y11++Y4)++I)) ta7 ⟨M,(Y11++Y4),ad,ae,rfl,(by rw [Fu];exact aj),(by rw [Fu];exact ai),rfl⟩
theorem ff8{nd kd wd mo bd:Int}{k:EnS}{v:KpV}(hF:KpF κ I nd k v)(hK:az1 nd kd wd mo bd k)(ae:k.b.ws.length<=4000){xe:Ev}(hx:J1 nd xe)(ht:xe.tm<=k.b.mr)(hT:F4 κ I 0 p5):eu prog κ 17 [.agg (kx kd wd mo bd nd k v).toArray,.agg (ez xe).toArray] I (λr J=>r = .tuple #[.agg zk.toArray,.slice none 0 0,e7 10]/\I=J):=by
 refine Ce2 Tryz.func17 C C ?_
 refine Am<|Ge1 (Au (cs:=[_,_,_,_,_,_,_,_,_,_,_,_,_,_,_,_,_,_,_,_,_,_,_,_,_]) C C C) λb1=>Ge1 (Au (cs:=[_,_,_,_,_,_,_]) C C C) λb2=>Ge1 (Aj H3 C) λb3=>Z ?_
 refine Gc0 (Ac c_ C C<|ak0 (k:=k) (v:=v) (KpF.fit hF Ah) hK.v om<|A6 hT Ah)<|Z ?_
 refine G.e (Ac c_ C C<|ab3 xe) ?_
 rintro _ _ ⟨_,_,⟨rfl,rfl⟩,rfl,rfl⟩
 refine Z ?_
 refine Al C (λaa=>?_)<|λaa=>Z ?_
 ·exact absurd hx.chk aa
 refine Gc0 (Ac c_ C C<|bt8 (nd:=nd) (e:=xe) hx)<|Z ?_
 refine G.e (Ac c_ C C<|dr3 (bf:=k.b) (e:=xe) (Bd hF.w<|B3 (κ:=κ)<|by repeat (first|exact hH|exact Bh _|apply Bg|apply B1|apply Bo)) hK.buf om hx.chk ht) ?_
 rintro _ _ ⟨_,_,⟨ab,ad,rfl,rfl⟩,rfl,rfl⟩
 refine Z ?_
 refine Ge1 (Aj J4 C) λb6=>Ge0 (C7 J4)<|Z ?_
 refine Al C (λM=>?_)<|λM=>?_
 ·refine Am (Gr (Cm (cells:=zk) H3 Ew fw3 C kr)<|Gm C<|Ge0 (Eff.sq H3)<|Z ?_)
  exact Cu C H3 C C C mm C I Ah ⟨rfl,rfl⟩
 exact absurd dc M
theorem cq9{nd kd wd mo bd:Int}{k:EnS}{v:KpV}(hH:Has I T)(hF:KpF κ T nd k v)(hK:az1 nd kd wd mo bd k)(ar:k.b.ws.length<=4000)(hT:F4 κ I 0 p5):eu prog κ 26 [.agg (kx kd wd mo bd nd k v).toArray] I (λr J=>∃(v':KpV) (Y:List Item) (a:Option Addr) (c:Nat),r = .tuple #[.agg (kx kd wd mo bd nd ((k.flush kd wd mo)) v').toArray,.slice a ((k.da1 kd wd mo)).length c,e7 0]/\KpF κ (Y++T) nd (k.flush kd wd mo) v'/\Sl κ (Y++T) (.slice a ((k.da1 kd wd mo)).length c) (k.da1 kd wd mo)/\J=Y++I):=by
 have ap:=di8 hK
 refine Ce1 Tryz.func26 C C ?_
 refine Am<|Ge1 (Au (cs:=[_,_,_,_,_,_,_,_,_,_,_,_,_,_,_,_,_,_,_,_,_,_,_,_,_]) C C C) λb1=>Ge1 (Aj H3 C) λb2=>Z ?_
 refine Gc0 (Ac c_ C C<|ak0 (k:=k) (v:=v) (KpF.fit hF<|B3 (κ:=κ)<|by repeat (first|exact hH|exact Bh _|apply Bg|apply B1|apply Bo)) hK.v om<|A6 hT Ah)<|Z ?_
 refine G.e (Ac c_ C C<|dr4 (T:=T) (bf:=k.b) ta2 hF.w hK.buf om) ?_
 rintro _ _ ⟨_,_,⟨aa,ab,ak,aj,Y3,rfl,an,ao,rfl⟩,rfl,rfl⟩
 refine Ds (J:=e8 b2 zk 47::e8 b1 (kx kd wd mo bd nd k v) 47::(Y3++I)) (Cj<|C0 (A:=Y3) (L:=[e8 b2 zk 47,e8 b1 (kx kd wd mo bd nd k v) 47]) (T:=I)) ?_
 show G prog κ _ _ _ _ ([(15,.tuple #[.agg #[e7 bd,e7<|k.b.flush.lt,e7<|k.b.flush.mr,.slice aa k.b.flush.ws.length ab],.slice ak k.b.ws.length aj,e7 0]),(14,.agg #[e7 bd,e7<|k.b.lt,e7<|k.b.mr,.slice v.w.a k.b.ws.length v.w.c]),(13,.pointer<|some ⟨b1,3,none⟩),(10,.bool false),(9,.bool true),(8,.agg (kx kd wd mo bd nd k v).toArray),(4,e7 0),(3,.slice none 0 0),(2,pt b2),(1,pt b1),(0,.agg (kx kd wd mo bd nd k v).toArray)]:Env) (e8 b2 zk 47::e8 b1 (kx kd wd mo bd nd k v) 47::(Y3++I))
 refine Z ?_
 refine Ge1 (Aj J4 C) λb8=>Ge0 (C7 J4) ?_
 refine Ga C<|Ga C<|Ar<|A0 (S5 7 6 5 2 1)<|Ay<|Am<|Gm C<|Gr (Ci C C)<|Ar<|Al C (λaq=>?_)<|λaq=>?_
 ·exact absurd aq dc
 refine Bc<|Ao<|Am<|Gr (j7.lj H3) ?_
 refine Gl4 J4 ?_
 refine Gm C<|G.e (Ac c_ C C<|bg7 (T:=(Y3++T)) (k:=k) (v:=v) (bf:=k.b.flush) (evs:=k.b.ws) ta2 (KpF.fit hF<|Bu _ _) hK an ao ap.1 ap.2 (by show (0:Nat)<=100000;omega) om<|A6 hT Ah) ?_
 rintro _ _ ⟨_,_,⟨M,Y10,ae,ad,rfl,ai,ah,rfl⟩,rfl,rfl⟩
 refine Ds (J:=e8 b8 [e7 bd,e7<|k.b.flush.lt,e7<|k.b.flush.mr,.slice aa k.b.flush.ws.length ab] 32::e8 b2 zk 47::e8 b1 (kx kd wd mo bd nd k v) 47::(Y10++(Y3++I))) (Cj<|C0 (A:=Y10) (L:=[e8 b8 [e7 bd,e7<|k.b.flush.lt,e7<|k.b.flush.mr,.slice aa k.b.flush.ws.length ab] 32,e8 b2 zk 47,e8 b1 (kx kd wd mo bd nd k v) 47]) (T:=(Y3++I))) ?_
 show G prog κ _ _ _ _ ([(26,.tuple #[.agg (kx kd wd mo bd nd ((k.rel kd wd mo k.b.flush k.b.ws)) M).toArray,.slice ae ((X7 kd wd mo k.S k.b.ws).2).length ad,e7 0]),(25,.slice ak k.b.ws.length aj),(24,.agg #[e7 bd,e7<|k.b.flush.lt,e7<|k.b.flush.mr,.slice aa k.b.flush.ws.length ab]),(23,.agg (kx kd wd mo bd nd k v).toArray),(20,.bool<|decide<|0≠0),(19,e7 0),(7,e7 0),(6,.slice ak k.b.ws.length aj),(5,pt b8),(2,pt b2),(1,pt b1)]:Env) (e8 b8 [e7 bd,e7<|k.b.flush.lt,e7<|k.b.flush.mr,.slice aa k.b.flush.ws.length ab] 32::e8 b2 zk 47::e8 b1 (kx kd wd mo bd nd k v) 47::(Y10++(Y3++I)))
 refine Z ?_
 refine Ge0 (Eff.sq H3)<|Z ?_
 exact Cu C H3 C C C mm C (((Y10++Y3)++I)) ta7 ⟨M,(Y10++Y3),ae,ad,rfl,(by rw [Fu];exact ai),(by rw [Fu];exact ah),rfl⟩
end Go.Sl
namespace Go.Sl
variable {P:Program}{κ:Ctx}{N:Frm}{L:Env}{J:List Item}{d:Option Tmp}{ty:TypeId}{ps:String}{af:Array Edge}{gd:Option (Nat×Bool)}
theorem j7.max4{x y z u:Operand}(hx:er L x=some (e7 0))(hy:er L y=some (e7 0))(hz:er L z=some (e7 0))(hu:er L u=some (e7 0)){aa:Array TypeId} :
  j7 P κ N ⟨d,.call {callee:= .builtin .max,args:= #[x,y,z,u],argTypes:=aa},ty,ps,af,gd⟩ L J (e7 0):=
 λa w M _=>by simp [execOp,resolve,invoke,builtin,M.eval hx,M.eval hy,M.eval hz,M.eval hu,Builtin.max_,Builtin.max2]
end Go.Sl
namespace Go.Sl
open Go.Proofs
set_option maxRecDepth 4000
variable{nd:Int}{κ:Ctx}{I T:List Item}
attribute [local irreducible] W G V D A j7 Eff
theorem cn1(h:0<=nd/\nd<=64):s8 nd ([]:List Pt):=⟨h,List.Pairwise.nil,λe M=>by cases M⟩
theorem ff2{kd wd mo bd:Int}(T:List Item)(ar:0<=nd/\nd<=64)(hw:s7 kd wd mo=0)(hb:0<=bd/\bd<=1048576)(hT:F4 κ I 0 p5):eu prog κ 14 [e7 nd,e7 bd,.agg #[e7 kd,e7 wd,e7 mo]] I (λr J=>∃(v':KpV) (Y:List Item),r = .tuple #[.agg (kx kd wd mo bd nd ((⟨⟨-1, -1,[]⟩,[],0⟩:EnS)) v').toArray,e7 0]/\KpF κ (Y++T) nd (⟨⟨-1, -1,[]⟩,[],0⟩:EnS) v'/\J=Y++I):=by
 refine Ce3 Tryz.func14 C C ?_
 refine Am<|Ge1 (Au (cs:=[_,_,_]) C C C) λb1=>Ge1 (Aj H3 C) λb2=>Z ?_
 refine A1 (d:=21) C (λa0=>?_)<|λa0=>Z ?_
 ·omega
 refine Al C (λa1=>?_)<|λa1=>Z ?_
 ·omega
 refine Gc0 (Ac c_ C C<|fh2 hb)<|Z ?_
 refine Ge1 (Aj J4 C) λb3=>Ge0 (C7 J4)<|Z ?_
 refine Al C (λay=>?_)<|λay=>Z ?_
 ·exact absurd ay dc
 refine G.e (Ac c_ C C<|bh6 kd wd mo) ?_
 rintro _ _ ⟨_,_,⟨rfl,rfl⟩,rfl,rfl⟩
 refine Z ?_
 refine Al C (λaz=>?_)<|λaz=>Z ?_
 ·exact absurd hw az
 refine Ge1 (Aj J9 C) λb4=>Ge0 (Cr J9)<|Z ?_
 refine G.e (Ac c_ C C<|fq8 (nd:=nd) (es:=([]:List Pt)) (Sl.nil _) (cn1 ar)<|A6 hT Ah) ?_
 rintro _ _ ⟨_,_,⟨av,au,aw,aq,rfl,rfl⟩,rfl,rfl⟩
 refine Z ?_
 refine Ge1 (Aj ab6 C) λb9=>Ge0 (C9 ab6)<|Z ?_
 refine G.e (Ac c_ C C<|fe7 (nd:=nd) (es:=([]:List Pt)) (Sl.nil _) (cn1 ar)<|A6 hT Ah) ?_
 rintro _ _ ⟨_,_,⟨M,aj,ab,ak,rfl,rfl⟩,rfl,rfl⟩
 refine Z ?_
 refine Ge1 (Aj L5 C) λa4=>Ge0 (C9 L5)<|Z ?_
 refine G.e (Ac c_ C C<|fb9 (nd:=nd) (es:=([]:List Pt)) (Sl.nil _)<|cn1 ar) ?_
 rintro _ _ ⟨_,_,⟨ao,aa,ap,ae,rfl,rfl⟩,rfl,rfl⟩
 refine Z ?_
 refine Ge1 (Aj ad0 C) λa3=>Ge0 (C7 ad0)<|Z ?_
 refine G.e (Ac c_ C C<|fe4 (nd:=nd) (es:=([]:List Pt)) (Sl.nil _) (cn1 ar)<|A6 hT Ah) ?_
 rintro _ _ ⟨_,_,⟨ai,ad,an,ah,rfl,rfl⟩,rfl,rfl⟩
 refine Z ?_
 refine Ge1 (Aj V4 C) λa5=>Ge0 (E5 V4)<|Z ?_
 refine Gr (j7.max4 C C C C)<|Z ?_
 refine Al C (λax=>?_)<|λax=>Z ?_
 ·exact absurd ax dc
 refine Gr (Cm (cells:=[e7 kd,e7 wd,e7 mo,e7 bd,e7<|(-1),e7<|(-1),.slice none 0 0,e7 nd,.slice none 0 0,e7 nd,.slice av ([]:List Pt).length au,.slice aw (j9 nd ([]:List Pt)).length aq,e7 nd,.slice M ([]:List Pt).length aj,.slice ab (j5 nd ([]:List Pt)).length ak,e7 nd,.slice ao ([]:List Pt).length aa,e7<|V5 nd ([]:List Pt) / 3,.slice ap (H7 nd ([]:List Pt)).length ae,e7 nd,.slice ai ([]:List Pt).length ad,e7<|F7 nd ([]:List Pt),e7<|J8 nd ([]:List Pt),.slice an (r9 nd ([]:List Pt)).length ah,e7 0]) H3 Ew fw3 C kr)<|Ge0 (Eff.sq H3)<|Z ?_
 exact Co C H3 C C mm C (([vk 105 av au ([]:List Pt),vc 3 (.slice aw (j9 nd ([]:List Pt)).length aq)<|j9 nd ([]:List Pt),vc 105 (.slice M ([]:List Pt).length aj)<|([]:List Pt),vc 3 (.slice ab (j5 nd ([]:List Pt)).length ak)<|j5 nd ([]:List Pt),vc 105 (.slice ao ([]:List Pt).length aa)<|([]:List Pt),vc 3 (.slice ap (H7 nd ([]:List Pt)).length ae)<|H7 nd ([]:List Pt),vc 105 (.slice ai ([]:List Pt).length ad)<|([]:List Pt),vc 3 (.slice an (r9 nd ([]:List Pt)).length ah)<|r9 nd ([]:List Pt)]++I)) Az ⟨⟨⟨none,0⟩,⟨none,0⟩,⟨⟨av,au⟩,⟨aw,aq⟩,⟨M,aj⟩,⟨ab,ak⟩,⟨ao,aa⟩,⟨ap,ae⟩,⟨ai,ad⟩,⟨an,ah⟩⟩⟩,[vk 105 av au ([]:List Pt),vc 3 (.slice aw (j9 nd ([]:List Pt)).length aq)<|j9 nd ([]:List Pt),vc 105 (.slice M ([]:List Pt).length aj)<|([]:List Pt),vc 3 (.slice ab (j5 nd ([]:List Pt)).length ak)<|j5 nd ([]:List Pt),vc 105 (.slice ao ([]:List Pt).length aa)<|([]:List Pt),vc 3 (.slice ap (H7 nd ([]:List Pt)).length ae)<|H7 nd ([]:List Pt),vc 105 (.slice ai ([]:List Pt).length ad)<|([]:List Pt),vc 3 (.slice an (r9 nd ([]:List Pt)).length ah)<|r9 nd ([]:List Pt)],rfl,⟨Sl.nil _,Sl.nil _,⟨A5,A5,A5,A5,A5,A5,A5,A5⟩⟩,rfl⟩
theorem bu1{kd wd mo bd:Int}{k:EnS}{v:KpV}(hH:Has I T)(hF:KpF κ T nd k v)(hK:az1 nd kd wd mo bd k)(M:k.b.ws.length<=4000){xe:Ev}(hx:J1 nd xe)(hT:F4 κ I 0 p5):eu prog κ 17 [.agg (kx kd wd mo bd nd k v).toArray,.agg (ez xe).toArray] I λr J=>(xe.tm<=k.b.mr/\r = .tuple #[.agg zk.toArray,.slice none 0 0,e7 10]/\I=J)\/(k.b.mr<xe.tm/\∃(v':KpV) (Y:List Item) (a:Option Addr) (c:Nat),r = .tuple #[.agg (kx kd wd mo bd nd ((k.feed kd wd mo bd xe)) v').toArray,.slice a ((k.cn3 kd wd mo bd xe)).length c,e7 0]/\KpF κ (Y++T) nd (k.feed kd wd mo bd xe) v'/\Sl κ (Y++T) (.slice a ((k.cn3 kd wd mo bd xe)).length c) (k.cn3 kd wd mo bd xe)/\J=Y++I):=by
 by_cases ht:xe.tm<=k.b.mr
 ·exact (ff8 (hF.fit hH.fit) hK M hx ht hT).mono λr J h=> .inl ⟨ht,h⟩
 exact (fs1 hH hF hK M hx om hT).mono λr J h=> .inr ⟨by omega,h⟩
section
variable {kd wd mo bd:Int}{k k0:EnS}{evs:List Ev}{e:Ev}{i:Nat}
theorem cj7(hk:k=k0.all kd wd mo bd (evs.take i))(hi:i<evs.length)(M:e_ evs i=e):k.next kd wd mo bd e=k0.all kd wd mo bd (evs.take (i+1)):=by
 rw [Ca evs i hi,EnS.fp4,←hk,M];rfl
theorem du1(hk:k=k0.all kd wd mo bd (evs.take i))(hi:i<evs.length)(he:e_ evs i=e)(M:e.tm<=k.b.mr):k=k0.all kd wd mo bd (evs.take (i+1)):=by
 rw [←cj7 hk hi he];unfold EnS.next;rw [B_ M]
theorem du2(hk:k=k0.all kd wd mo bd (evs.take i))(hi:i<evs.length)(M:e_ evs i=e)(ht:k.b.mr<e.tm):k.feed kd wd mo bd e=k0.all kd wd mo bd (evs.take (i+1)):=by
 rw [←cj7 hk hi M];unfold EnS.next;rw [An om]
theorem dd3(hk:k=k0.all kd wd mo bd (evs.take i))(hi:i<evs.length)(M:e_ evs i=e):BfS.an9 bd k0.b (evs.take (i+1))=BfS.an9 bd k0.b (evs.take i)+(if e.tm<=k.b.mr then 1 else 0):=by
 have h1:=(cg9 (kd:=kd) (wd:=wd) (mo:=mo) (bd:=bd) (evs.take i) k0).1
 have h2:k.b=k0.b.all bd (evs.take i):=by rw [hk,h1];rfl
 rw [Ca evs i hi,BfS.by0,M,h2];rfl
theorem bf2(k:EnS)(e:Ev):(k.feed kd wd mo bd e).b.ws.length<=k.b.ws.length+1:=bw7 k.b bd e
end
theorem bk9(bd:Int):∀(l:List Ev) (s:BfS),BfS.an9 bd s l<=l.length
 |[],s=>Gg _
 |e::l,s=>by
  have h:=bk9 bd l (s.next bd e)
  show (if e.tm<=s.mr then 1 else 0)+BfS.an9 bd (s.next bd e) l<=l.length+1
  split<;>omega
theorem dh2(bd:Int)(s:BfS)(l:List Ev):BfS.an9 bd s l<=l.length:=bk9 bd l s
theorem dq6{kd wd mo bd:Int}{evs:List Ev}{ea:Option Addr}{ec:Nat}(hH:Has I T)(he:Sl κ I (.slice ea evs.length ec) evs)(ah:0<=nd/\nd<=64)(hw:s7 kd wd mo=0)(hb:0<=bd/\bd<=1048576)(aj:∀e∈evs,J1 nd e)(a5:evs.length<=4000)(hT:F4 κ I 0 p5):eu prog κ 30 [e7 nd,e7 bd,.agg #[e7 kd,e7 wd,e7 mo],.slice ea evs.length ec] I (λr J=>∃(v':KpV) (Y:List Item),r = .tuple #[.agg (kx kd wd mo bd nd ((EnS.run kd wd mo bd evs)) v').toArray,e7 (((BfS.an9 bd ⟨-1, -1,[]⟩ evs):Nat):Int),e7 0]/\KpF κ (Y++T) nd (EnS.run kd wd mo bd evs) v'/\J=Y++I):=by
 refine Ce4 Tryz.func30 C C ?_
 refine Am<|Ge1 (Au (cs:=[_,_,_]) C C C) λb1=>Ge1 (Aj H3 C) λb2=>Z ?_
 refine G.e (Ac c_ C C<|ff2 (nd:=nd) (bd:=bd) T ah hw hb<|A6 hT Ah) ?_
 rintro _ _ ⟨_,_,⟨av,Y4,rfl,ai,rfl⟩,rfl,rfl⟩
 refine Ds (J:=e8 b2 zk 47::e8 b1 [e7 kd,e7 wd,e7 mo] 29::(Y4++I)) (Cj<|C0 (A:=Y4) (L:=[e8 b2 zk 47,e8 b1 [e7 kd,e7 wd,e7 mo] 29]) (T:=I))<|Z ?_
 refine Ge1 (Aj H3 C) λb5=>Ge0 (Eff.sq H3)<|Z ?_
 refine Al C (λae=>?_)<|λae=>Z ?_
 ·exact absurd ae dc
 refine B9 (σ:=Nat×EnS×KpV×(List Item)×Nat) (λs=>([(8,pt b2),(11,pt b5),(13,e7 ((s.2.2.2.2:Nat):Int)),(30,.slice ea evs.length ec),(31,e7 ((evs.length:Nat):Int)),(32,e7 ((s.1:Nat):Int))]:Env)) (λs=>e8 b5 (kx kd wd mo bd nd s.2.1 s.2.2.1) 47::e8 b2 zk 47::e8 b1 [e7 kd,e7 wd,e7 mo] 29::(s.2.2.2.1++I)) (λs=>(s.1<=evs.length)/\(s.2.1=(⟨⟨-1, -1,[]⟩,[],0⟩:EnS).all kd wd mo bd (evs.take s.1))/\(s.2.2.2.2=BfS.an9 bd ⟨-1, -1,[]⟩ (evs.take s.1))/\(az1 nd kd wd mo bd s.2.1)/\(KpF κ (s.2.2.2.1++T) nd s.2.1 s.2.2.1)/\(s.2.1.b.ws.length<=s.1)) (λs=>evs.length - s.1) (0,(⟨⟨-1, -1,[]⟩,[],0⟩:EnS),av,Y4,0) ⟨om,rfl,rfl,(az1.open_ ah hw hb),ai,(by show (0:Nat)<=0;omega)⟩ (cx2<|Aa Cn<|cx2<|Aa Cn Bb) Az ?_
 rintro ⟨i,k,v,Y,n⟩ hp
 dsimp only at hp ⊢
 obtain ⟨hi,hk,hn,hK,hF,a6⟩:=hp
 have a4:n<=i:=by rw [hn];exact Hc (dh2 _ _ _) (by rw [Fr];omega)
 refine Z ?_
 refine Al C (λaq=>Z ?_)<|λaq=>Z ?_
 ·have ad:=aj _ (Bn (xs:=evs) (i:=(i:Int)) om om)
  generalize hxe:e_ evs i=xe at ad ⊢
  refine Ge1 (Aj z6 C) λb6=>Ge0 (Fk z6)<|Z ?_
  refine G.e (Ac c_ C C<|bu1 (T:=(Y++T)) (k:=k) (v:=v) ta2 hF hK om ad<|A6 hT Ah) ?_
  rintro _ _ ⟨_,_,(⟨M,rfl,rfl⟩|⟨M,au,Y8,a0,ay,rfl,ak,ax,rfl⟩),rfl,rfl⟩
  ·skip
   refine Z ?_
   refine Ge1 (Aj H3 C) λa3=>Ge0 (Eff.sq H3)<|Z ?_
   refine Al C (λaa=>?_)<|λaa=>Z ?_
   ·exact absurd aa dc
   refine Al C (λan=>Z ?_)<|λan=>?_
   ·exact Bt ((i+1),(k),(v),(Y),(n+1))<|by dsimp only;exact ⟨om,(du1 hk om hxe M),(by rw [dd3 (k0:=(⟨⟨-1, -1,[]⟩,[],0⟩:EnS)) hk om hxe,B_ M,hn]),hK,hF,om⟩
   exact absurd dc an
  refine Ds (J:=e8 b6 (ez xe) 54::e8 b5 (kx kd wd mo bd nd k v) 47::e8 b2 zk 47::e8 b1 [e7 kd,e7 wd,e7 mo] 29::(Y8++(Y++I))) (Cj<|C0 (A:=Y8) (L:=[e8 b6 (ez xe) 54,e8 b5 (kx kd wd mo bd nd k v) 47,e8 b2 zk 47,e8 b1 [e7 kd,e7 wd,e7 mo] 29]) (T:=(Y++I)))<|Z ?_
  refine Ge1 (Aj H3 C) λa1=>Ge0 (Eff.sq H3)<|Z ?_
  refine Al C (λaa=>Z ?_)<|λaa=>?_
  ·refine Ge0 (Eff.sq H3) (Z ?_)
   exact Bt ((i+1),((k.feed kd wd mo bd xe)),(au),((Y8++Y)),(n)) (by dsimp only;exact ⟨om,(du2 hk om hxe M),(by rw [dd3 (k0:=(⟨⟨-1, -1,[]⟩,[],0⟩:EnS)) hk om hxe,An om,hn];rfl),(hK.feed ad M),(by rw [Fu];exact ak),(by have h9:=bf2 (kd:=kd) (wd:=wd) (mo:=mo) (bd:=bd) k xe;omega)⟩) (hI:=by (try dsimp only);exact ta7)
  exact absurd dc aa
 refine G.e (Ac c_ C C<|cq9 (T:=(Y++T)) (k:=k) (v:=v) ta2 hF hK om<|A6 hT Ah) ?_
 rintro _ _ ⟨_,_,⟨ap,Y14,az,aw,rfl,ab,ar,rfl⟩,rfl,rfl⟩
 refine Ds (J:=e8 b5 (kx kd wd mo bd nd k v) 47::e8 b2 zk 47::e8 b1 [e7 kd,e7 wd,e7 mo] 29::(Y14++(Y++I))) (Cj<|C0 (A:=Y14) (L:=[e8 b5 (kx kd wd mo bd nd k v) 47,e8 b2 zk 47,e8 b1 [e7 kd,e7 wd,e7 mo] 29]) (T:=(Y++I)))<|Z ?_
 refine Ge0 (Eff.sq H3)<|Z ?_
 refine Al C (λao=>?_)<|λao=>Z ?_
 ·exact absurd ao dc
 refine Ge0 (Eff.sq H3)<|Z ?_
 rw [show evs.take i=evs from Fx om] at hk hn
 have hR:(EnS.run kd wd mo bd evs)=k.flush kd wd mo:=by rw [hk];rfl
 rw [hR,←hn]
 exact Cu C H3 C C C mm C (((Y14++Y)++I)) ta7 ⟨ap,(Y14++Y),rfl,(by rw [Fu];exact ab),rfl⟩
theorem ax1{la:Option Addr}{lc:Nat}{S:List Lk}{kd wd mo bd lt mr tm:Int}{wa:Option Addr}{wn wc:Nat}{y0 y1 y2 y3 y4 y5 y6 y7 y8 y9 ay az ax av aw:Value}(hl:Sl κ I (.slice la S.length lc) S)(hv:p9 nd S=0)(h1:1<=nd):eu prog κ 121 [.agg #[e7 kd,e7 wd,e7 mo,e7 bd,e7 lt,e7 mr,.slice wa wn wc,e7 nd,.slice la S.length lc,y0,y1,y2,y3,y4,y5,y6,y7,y8,y9,ay,az,ax,av,aw,e7 tm]] I (λr J=>∃(pv:PkV) (Y:List Item),r = .agg (ky kd wd mo bd lt mr wa wn wc nd la S.length lc (j8 S) pv tm).toArray/\PkR κ Y nd (j8 S) pv/\J=Y++I):=by
 have M:=G2 hv
 have a0:=q9 M
 have a1:=a0
 rw [G7] at a1
 have a3:=M.rng
 refine Ce1 Tryz.func121 C C ?_
 refine Am<|Ge1 (Au (cs:=[_,_,_,_,_,_,_,_,_,_,_,_,_,_,_,_,_,_,_,_,_,_,_,_,_]) C C C) λb1=>Ge1 (Aj H3 C) λb2=>Z ?_
 refine G.e (Ac c_ C C<|dq8 (nd:=nd) (A4 hl) hv om) ?_
 rintro _ _ ⟨_,_,⟨an,ao,rfl,rfl⟩,rfl,rfl⟩
 refine Z ?_
 refine Ge1 (Aj J9 C) λb5=>Ge0 (Cr J9)<|Z ?_
 refine G.e (Ac c_ C C<|dp7 (nd:=nd) A5 M om) ?_
 rintro _ _ ⟨_,_,⟨aq,au,ar,ap,rfl,rfl⟩,rfl,rfl⟩
 refine Z ?_
 refine Ge0 (Br (cs:=[_,_,_,_,_,_,_,_,_,_,_,_,_,_,_,_,_,_,_,_,_,_,_,_,_]) (vs:=[_,_,_]) (cs':=[_,_,_,_,_,_,_,_,_,_,_,_,_,_,_,_,_,_,_,_,_,_,_,_,_]) ab6)<|Z ?_
 refine G.e (Ac c_ C C<|dp6 (nd:=nd) A5 M) ?_
 rintro _ _ ⟨_,_,⟨aa,aj,ab,ak,rfl,rfl⟩,rfl,rfl⟩
 refine Z ?_
 refine Ge0 (Br (cs:=[_,_,_,_,_,_,_,_,_,_,_,_,_,_,_,_,_,_,_,_,_,_,_,_,_]) (vs:=[_,_,_]) (cs':=[_,_,_,_,_,_,_,_,_,_,_,_,_,_,_,_,_,_,_,_,_,_,_,_,_]) L5)<|Z ?_
 refine Gc2 (Ac c_ C C<|dp5 (nd:=nd) A5 M) λah ae=>Z ?_
 refine Ge0 (Br (cs:=[_,_,_,_,_,_,_,_,_,_,_,_,_,_,_,_,_,_,_,_,_,_,_,_,_]) (vs:=[_,_,_,_]) (cs':=[_,_,_,_,_,_,_,_,_,_,_,_,_,_,_,_,_,_,_,_,_,_,_,_,_]) ad0)<|Z ?_
 refine Gc2 (Ac c_ C C<|dp4 (nd:=nd) A5 M) λad ai=>Z ?_
 refine Ge0 (Br (cs:=[_,_,_,_,_,_,_,_,_,_,_,_,_,_,_,_,_,_,_,_,_,_,_,_,_]) (vs:=[_,_,_,_,_]) (cs':=[_,_,_,_,_,_,_,_,_,_,_,_,_,_,_,_,_,_,_,_,_,_,_,_,_]) V4)<|Z ?_
 refine Ge0 (Eff.sq H3) ?_
 exact Ar<|B2<|Ej C H3 C mm C (vk 3 ad ai (r9 nd<|j8 S)::vk 3 ah ae (H7 nd<|j8 S)::vk 105 aa aj (j8 S)::vk 3 ab ak (j5 nd<|j8 S)::vk 105 aq au (j8 S)::vk 3 ar ap (j9 nd<|j8 S)::vk 105 an ao (j8 S)::I) Az ⟨⟨⟨aq,au⟩,⟨ar,ap⟩,⟨aa,aj⟩,⟨ab,ak⟩,⟨an,ao⟩,⟨ah,ae⟩,⟨an,ao⟩,⟨ad,ai⟩⟩,[vk 3 ad ai (r9 nd<|j8 S),vc 3 (.slice ah (H7 nd<|j8 S).length ae)<|H7 nd<|j8 S,vc 105 (.slice aa (j8 S).length aj)<|j8 S,vc 3 (.slice ab (j5 nd<|j8 S).length ak)<|j5 nd<|j8 S,vc 105 (.slice aq (j8 S).length au)<|j8 S,vc 3 (.slice ar (j9 nd<|j8 S).length ap)<|j9 nd<|j8 S,vc 105 (.slice an (j8 S).length ao)<|j8 S],rfl,⟨A5,A5,A5,A5,A5,A5,A5,A5⟩,rfl⟩
end Go.Sl
