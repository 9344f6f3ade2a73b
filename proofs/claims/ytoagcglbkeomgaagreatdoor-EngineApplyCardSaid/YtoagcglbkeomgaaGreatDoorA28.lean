/- A part of the proofs of statements of this seat: contracts of functions, and the plain laws that they lean on. No conditions. -/
import Derived.Test.YtoagcglbkeomgaaGreatDoorA27
set_option linter.unusedVariables false
set_option linter.unusedSimpArgs false
set_option linter.unusedSectionVars false
open Go.Proofs.Tryz (prog)
set_option maxHeartbeats 4000000
namespace Go.Sl
open Go.Proofs
set_option maxRecDepth 4000
variable{κ:Ctx}{I T:List Item}
attribute [local irreducible] W G V D A j8 Eff
section
variable {nd kd wd mo bd:Int}{k:EnS}{e:Ev}
theorem co2(h:bi3 nd kd wd mo bd k)(he:H4 nd e)(ht:k.b.mr<e.tm):(k.b.out bd e).Pairwise (λa b=>a.tm<=b.tm)/\∀x∈k.b.out bd e,H4 nd x/\k.tm<=x.tm:=by
 obtain ⟨h1,h2⟩:=h.buf.out (e:=e) ht
 refine ⟨h2,λx hx=>?_⟩
 have M:H4 nd x:=by
  rcases mem_push.1 (ba1.1 hx).1 with rfl|h4
  ·exact he
  exact h.fit x h4
 have h4:=h1 x hx
 have h5:=h.tm
 have h6:=M.tm
 exact ⟨M,by omega⟩
theorem di6(h:bi3 nd kd wd mo bd k):k.b.ws.Pairwise (λa b=>a.tm<=b.tm)/\∀x∈k.b.ws,H4 nd x/\k.tm<=x.tm:=by
 refine ⟨h.buf.asc,λx M=>?_⟩
 have h3:=h.fit x M
 have h4:=h.buf.rng x M
 have h5:=h.tm
 have h6:=h3.tm
 exact ⟨h3,by omega⟩
theorem de4(s:BfS)(bd:Int)(e:Ev):(s.out bd e).length<=s.ws.length+1:=by
 unfold BfS.out ao5
 exact Hd (G_ _ _)<|by rw [ab8];exact Gi _
theorem bw5(s:BfS)(bd:Int)(e:Ev):(s.push bd e).ws.length<=s.ws.length+1:=by
 unfold BfS.push beyond
 exact Hd (G_ _ _)<|by rw [ab8];exact Gi _
end
theorem fr9{nd kd wd mo bd:Int}{k:EnS}{v:KpV}(hH:Has I T)(hF:KpF κ T nd k v)(hK:bi3 nd kd wd mo bd k)(au:k.b.ws.length<=4000){xe:Ev}(hx:H4 nd xe)(ht:k.b.mr<xe.tm)(hT:F4 κ I 0 p5):eu prog κ 17 [.agg (kx kd wd mo bd nd k v).toArray,.agg (ez xe).toArray] I (λr J=>∃(v':KpV) (Y:List Item) (a:Option Addr) (c:Nat),r = .tuple #[.agg (kx kd wd mo bd nd ((k.feed kd wd mo bd xe)) v').toArray,.slice a ((k.da4 kd wd mo bd xe)).length c,e7 0]/\KpF κ (Y++T) nd (k.feed kd wd mo bd xe) v'/\Sl κ (Y++T) (.slice a ((k.da4 kd wd mo bd xe)).length c) (k.da4 kd wd mo bd xe)/\J=Y++I):=by
 have ap:=co2 hK hx ht
 refine Ce2 Tryz.func17 C C ?_
 refine Al<|Ge1 (Av (cs:=[_,_,_,_,_,_,_,_,_,_,_,_,_,_,_,_,_,_,_,_,_,_,_,_,_]) C C C) λb1=>Ge1 (Av (cs:=[_,_,_,_,_,_,_]) C C C) λb2=>Ge1 (Aj H2 C) λb3=>Z ?_
 refine Gc0 (Ab c_ C C<|at3 (k:=k) (v:=v) (KpF.fit hF<|B4 (κ:=κ)<|by repeat (first|exact hH|exact Bh _|apply Bg|apply B2|apply Bp)) hK.v om<|Ba hT Ah)<|Z ?_
 refine G.e (Ab c_ C C<|ab3 xe) ?_
 rintro _ _ ⟨_,_,⟨rfl,rfl⟩,rfl,rfl⟩
 refine Z ?_
 refine A0 (S5 18 7 4 3 2)<|Ao C (λao=>?_)<|λao=>?_
 ·exact absurd hx.chk ao
 refine Bc<|Ak<|Ax<|Al<|Gr (j8.lj H2) ?_
 refine Gl7 z6 ?_
 refine Gc0 (Ab c_ C C<|bt7 (nd:=nd) (e:=xe) hx) ?_
 refine Gr (Ey C)<|Ar<|W.no C<|Bc<|Ak<|Al<|Gf aw3 C<|Gl4 J6 ?_
 refine Gl7 z6 ?_
 refine G.e (Ab c_ C C<|fg9 (T:=T) (bf:=k.b) (e:=xe) ta2 hF.w hK.buf om hx.chk ht hx.tm om) ?_
 rintro _ _ ⟨_,_,⟨aa,ab,ai,ah,Y4,rfl,an,ar,rfl⟩,rfl,rfl⟩
 refine Dp (J:=e8 b3 zk 47::e8 b2 (ez xe) 54::e8 b1 (kx kd wd mo bd nd k v) 47::(Y4++I)) (Cj<|Cz (A:=Y4) (L:=[e8 b3 zk 47,e8 b2 (ez xe) 54,e8 b1 (kx kd wd mo bd nd k v) 47]) (T:=I)) ?_
 show G prog κ _ _ _ _ ([(30,.tuple #[.agg #[e7 bd,e7<|(k.b.push bd xe).lt,e7<|(k.b.push bd xe).mr,.slice aa (k.b.push bd xe).ws.length ab],.slice ai ((k.b.out bd xe)).length ah,e7 0]),(29,.agg (ez xe).toArray),(28,.agg #[e7 bd,e7<|k.b.lt,e7<|k.b.mr,.slice v.w.a k.b.ws.length v.w.c]),(27,.pointer<|some ⟨b1,3,none⟩),(24,.bool false),(23,.bool true),(22,.agg (ez xe).toArray),(21,.agg (kx kd wd mo bd nd k v).toArray),(18,.bool<|decide<|(z7 xe)≠0),(7,e7<|z7 xe),(4,pt b3),(3,pt b2),(2,pt b1)]:Env) (e8 b3 zk 47::e8 b2 (ez xe) 54::e8 b1 (kx kd wd mo bd nd k v) 47::(Y4++I))
 refine Z ?_
 refine Ge1 (Aj J6 C) λb9=>Ge0 (C9 J6) ?_
 refine Ga C<|Ga C<|Ar<|A0 (S5 10 9 8 4 2)<|Ax<|Al<|Gm C<|Gr (Cb C C)<|Ar<|Ao C (λaq=>?_)<|λaq=>?_
 ·exact absurd aq dc
 refine Bc<|Ak<|Al<|Gr (j8.lj H2) ?_
 refine Gl4 J6 ?_
 refine Gm C<|G.e (Ab c_ C C<|bh0 (T:=(Y4++T)) (k:=k) (v:=v) (bf:=(k.b.push bd xe)) (evs:=(k.b.out bd xe)) ta2 (KpF.fit hF<|Br _ _) hK an ar ap.1 ap.2 (by have h9:=bw5 k.b bd xe;omega) (by have h9:=de4 k.b bd xe;omega)<|Ba hT Ah) ?_
 rintro _ _ ⟨_,_,⟨M,Y11,ad,ae,rfl,ak,aj,rfl⟩,rfl,rfl⟩
 refine Dp (J:=e8 b9 [e7 bd,e7<|(k.b.push bd xe).lt,e7<|(k.b.push bd xe).mr,.slice aa (k.b.push bd xe).ws.length ab] 32::e8 b3 zk 47::e8 b2 (ez xe) 54::e8 b1 (kx kd wd mo bd nd k v) 47::(Y11++(Y4++I))) (Cj<|Cz (A:=Y11) (L:=[e8 b9 [e7 bd,e7<|(k.b.push bd xe).lt,e7<|(k.b.push bd xe).mr,.slice aa (k.b.push bd xe).ws.length ab] 32,e8 b3 zk 47,e8 b2 (ez xe) 54,e8 b1 (kx kd wd mo bd nd k v) 47]) (T:=(Y4++I))) ?_
 show G prog κ _ _ _ _ ([(41,.tuple #[.agg (kx kd wd mo bd nd ((k.rel kd wd mo (k.b.push bd xe)<|k.b.out bd xe)) M).toArray,.slice ad ((X6 kd wd mo k.S<|k.b.out bd xe).2).length ae,e7 0]),(40,.slice ai ((k.b.out bd xe)).length ah),(39,.agg #[e7 bd,e7<|(k.b.push bd xe).lt,e7<|(k.b.push bd xe).mr,.slice aa (k.b.push bd xe).ws.length ab]),(38,.agg (kx kd wd mo bd nd k v).toArray),(35,.bool<|decide<|0≠0),(34,e7 0),(10,e7 0),(9,.slice ai ((k.b.out bd xe)).length ah),(8,pt b9),(4,pt b3),(2,pt b1)]:Env) (e8 b9 [e7 bd,e7<|(k.b.push bd xe).lt,e7<|(k.b.push bd xe).mr,.slice aa (k.b.push bd xe).ws.length ab] 32::e8 b3 zk 47::e8 b2 (ez xe) 54::e8 b1 (kx kd wd mo bd nd k v) 47::(Y11++(Y4++I)))
 refine Z ?_
 refine Ge0 (Eff.sq H2)<|Z ?_
 exact Cs C H2 C C C mm C (((Y11++Y4)++I)) ta7 ⟨M,(Y11++Y4),ad,ae,rfl,(by rw [Fv];exact ak),(by rw [Fv];exact aj),rfl⟩
theorem ff5{nd kd wd mo bd:Int}{k:EnS}{v:KpV}(hF:KpF κ I nd k v)(hK:bi3 nd kd wd mo bd k)(ab:k.b.ws.length<=4000){xe:Ev}(hx:H4 nd xe)(ht:xe.tm<=k.b.mr)(hT:F4 κ I 0 p5):eu prog κ 17 [.agg (kx kd wd mo bd nd k v).toArray,.agg (ez xe).toArray] I (λr J=>r = .tuple #[.agg zk.toArray,.slice none 0 0,e7 10]/\I=J):=by
 refine Ce2 Tryz.func17 C C ?_
 refine Al<|Ge1 (Av (cs:=[_,_,_,_,_,_,_,_,_,_,_,_,_,_,_,_,_,_,_,_,_,_,_,_,_]) C C C) λb1=>Ge1 (Av (cs:=[_,_,_,_,_,_,_]) C C C) λb2=>Ge1 (Aj H2 C) λb3=>Z ?_
 refine Gc0 (Ab c_ C C<|at3 (k:=k) (v:=v) (KpF.fit hF Ah) hK.v om<|Ba hT Ah)<|Z ?_
 refine G.e (Ab c_ C C<|ab3 xe) ?_
 rintro _ _ ⟨_,_,⟨rfl,rfl⟩,rfl,rfl⟩
 refine Z ?_
 refine Ao C (λaa=>?_)<|λaa=>Z ?_
 ·exact absurd hx.chk aa
 refine Gc0 (Ab c_ C C<|bt7 (nd:=nd) (e:=xe) hx)<|Z ?_
 refine G.e (Ab c_ C C<|dr1 (bf:=k.b) (e:=xe) (Bd hF.w<|B4 (κ:=κ)<|by repeat (first|exact hH|exact Bh _|apply Bg|apply B2|apply Bp)) hK.buf om hx.chk ht) ?_
 rintro _ _ ⟨_,_,⟨ae,ad,rfl,rfl⟩,rfl,rfl⟩
 refine Z ?_
 refine Ge1 (Aj J6 C) λb6=>Ge0 (C9 J6)<|Z ?_
 refine Ao C (λM=>?_)<|λM=>?_
 ·refine Al (Gr (Cn (cells:=zk) H2 Et fw0 C kr)<|Gm C<|Ge0 (Eff.sq H2)<|Z ?_)
  exact Cs C H2 C C C mm C I Ah ⟨rfl,rfl⟩
 exact absurd dc M
theorem ff3{nd kd wd mo bd:Int}{k:EnS}{v:KpV}(hH:Has I T)(hF:KpF κ T nd k v)(hK:bi3 nd kd wd mo bd k)(ar:k.b.ws.length<=4000)(hT:F4 κ I 0 p5):eu prog κ 26 [.agg (kx kd wd mo bd nd k v).toArray] I (λr J=>∃(v':KpV) (Y:List Item) (a:Option Addr) (c:Nat),r = .tuple #[.agg (kx kd wd mo bd nd ((k.flush kd wd mo)) v').toArray,.slice a ((k.gc9 kd wd mo)).length c,e7 0]/\KpF κ (Y++T) nd (k.flush kd wd mo) v'/\Sl κ (Y++T) (.slice a ((k.gc9 kd wd mo)).length c) (k.gc9 kd wd mo)/\J=Y++I):=by
 have ap:=di6 hK
 refine Ce1 Tryz.func26 C C ?_
 refine Al<|Ge1 (Av (cs:=[_,_,_,_,_,_,_,_,_,_,_,_,_,_,_,_,_,_,_,_,_,_,_,_,_]) C C C) λb1=>Ge1 (Aj H2 C) λb2=>Z ?_
 refine Gc0 (Ab c_ C C<|at3 (k:=k) (v:=v) (KpF.fit hF<|B4 (κ:=κ)<|by repeat (first|exact hH|exact Bh _|apply Bg|apply B2|apply Bp)) hK.v om<|Ba hT Ah)<|Z ?_
 refine G.e (Ab c_ C C<|dr2 (T:=T) (bf:=k.b) ta2 hF.w hK.buf om) ?_
 rintro _ _ ⟨_,_,⟨ab,aa,ak,ai,Y3,rfl,an,ao,rfl⟩,rfl,rfl⟩
 refine Dp (J:=e8 b2 zk 47::e8 b1 (kx kd wd mo bd nd k v) 47::(Y3++I)) (Cj<|Cz (A:=Y3) (L:=[e8 b2 zk 47,e8 b1 (kx kd wd mo bd nd k v) 47]) (T:=I)) ?_
 show G prog κ _ _ _ _ ([(15,.tuple #[.agg #[e7 bd,e7<|k.b.flush.lt,e7<|k.b.flush.mr,.slice ab k.b.flush.ws.length aa],.slice ak k.b.ws.length ai,e7 0]),(14,.agg #[e7 bd,e7<|k.b.lt,e7<|k.b.mr,.slice v.w.a k.b.ws.length v.w.c]),(13,.pointer<|some ⟨b1,3,none⟩),(10,.bool false),(9,.bool true),(8,.agg (kx kd wd mo bd nd k v).toArray),(4,e7 0),(3,.slice none 0 0),(2,pt b2),(1,pt b1),(0,.agg (kx kd wd mo bd nd k v).toArray)]:Env) (e8 b2 zk 47::e8 b1 (kx kd wd mo bd nd k v) 47::(Y3++I))
 refine Z ?_
 refine Ge1 (Aj J6 C) λb8=>Ge0 (C9 J6) ?_
 refine Ga C<|Ga C<|Ar<|A0 (S5 7 6 5 2 1)<|Ax<|Al<|Gm C<|Gr (Cb C C)<|Ar<|Ao C (λaq=>?_)<|λaq=>?_
 ·exact absurd aq dc
 refine Bc<|Ak<|Al<|Gr (j8.lj H2) ?_
 refine Gl4 J6 ?_
 refine Gm C<|G.e (Ab c_ C C<|bh0 (T:=(Y3++T)) (k:=k) (v:=v) (bf:=k.b.flush) (evs:=k.b.ws) ta2 (KpF.fit hF<|Br _ _) hK an ao ap.1 ap.2 (by show (0:Nat)<=100000;omega) om<|Ba hT Ah) ?_
 rintro _ _ ⟨_,_,⟨M,Y10,ae,ad,rfl,ah,aj,rfl⟩,rfl,rfl⟩
 refine Dp (J:=e8 b8 [e7 bd,e7<|k.b.flush.lt,e7<|k.b.flush.mr,.slice ab k.b.flush.ws.length aa] 32::e8 b2 zk 47::e8 b1 (kx kd wd mo bd nd k v) 47::(Y10++(Y3++I))) (Cj<|Cz (A:=Y10) (L:=[e8 b8 [e7 bd,e7<|k.b.flush.lt,e7<|k.b.flush.mr,.slice ab k.b.flush.ws.length aa] 32,e8 b2 zk 47,e8 b1 (kx kd wd mo bd nd k v) 47]) (T:=(Y3++I))) ?_
 show G prog κ _ _ _ _ ([(26,.tuple #[.agg (kx kd wd mo bd nd ((k.rel kd wd mo k.b.flush k.b.ws)) M).toArray,.slice ae ((X6 kd wd mo k.S k.b.ws).2).length ad,e7 0]),(25,.slice ak k.b.ws.length ai),(24,.agg #[e7 bd,e7<|k.b.flush.lt,e7<|k.b.flush.mr,.slice ab k.b.flush.ws.length aa]),(23,.agg (kx kd wd mo bd nd k v).toArray),(20,.bool<|decide<|0≠0),(19,e7 0),(7,e7 0),(6,.slice ak k.b.ws.length ai),(5,pt b8),(2,pt b2),(1,pt b1)]:Env) (e8 b8 [e7 bd,e7<|k.b.flush.lt,e7<|k.b.flush.mr,.slice ab k.b.flush.ws.length aa] 32::e8 b2 zk 47::e8 b1 (kx kd wd mo bd nd k v) 47::(Y10++(Y3++I)))
 refine Z ?_
 refine Ge0 (Eff.sq H2)<|Z ?_
 exact Cs C H2 C C C mm C (((Y10++Y3)++I)) ta7 ⟨M,(Y10++Y3),ae,ad,rfl,(by rw [Fv];exact ah),(by rw [Fv];exact aj),rfl⟩
end Go.Sl
namespace Go.Sl
variable {P:Program}{κ:Ctx}{N:Frm}{L:Env}{J:List Item}{d:Option Tmp}{ty:TypeId}{ps:String}{af:Array Edge}{gd:Option (Nat×Bool)}
theorem j8.max4{x y z u:Operand}(hx:er L x=some (e7 0))(hy:er L y=some (e7 0))(hz:er L z=some (e7 0))(hu:er L u=some (e7 0)){aa:Array TypeId} :
  j8 P κ N ⟨d,.call {callee:= .builtin .max,args:= #[x,y,z,u],argTypes:=aa},ty,ps,af,gd⟩ L J (e7 0):=
 λa w M _=>by simp [execOp,resolve,invoke,builtin,M.eval hx,M.eval hy,M.eval hz,M.eval hu,Builtin.max_,Builtin.max2]
end Go.Sl
namespace Go.Sl
open Go.Proofs
set_option maxRecDepth 4000
variable{bd kd mo nd wd:Int}
variable {κ:Ctx}{I:List Item}
attribute [local irreducible] W G V D A j8 Eff
theorem cn0(h:0<=nd/\nd<=64):s8 nd ([]:List Pt):=⟨h,List.Pairwise.nil,λe M=>by cases M⟩
theorem fe8(T:List Item)(aw:0<=nd/\nd<=64)(hw:s7 kd wd mo=0)(hb:0<=bd/\bd<=1048576)(hT:F4 κ I 0 p5):eu prog κ 14 [e7 nd,e7 bd,.agg #[e7 kd,e7 wd,e7 mo]] I (λr J=>∃(v':KpV) (Y:List Item),r = .tuple #[.agg (kx kd wd mo bd nd ((⟨⟨-1, -1,[]⟩,[],0⟩:EnS)) v').toArray,e7 0]/\KpF κ (Y++T) nd (⟨⟨-1, -1,[]⟩,[],0⟩:EnS) v'/\J=Y++I):=by
 refine Ce3 Tryz.func14 C C ?_
 refine Al<|Ge1 (Av (cs:=[_,_,_]) C C C) λb1=>Ge1 (Aj H2 C) λb2=>Z ?_
 refine A4 (d:=21) C (λa0=>?_)<|λa0=>Z ?_
 ·omega
 refine Ao C (λa1=>?_)<|λa1=>Z ?_
 ·omega
 refine Gc0 (Ab c_ C C<|fh0 hb)<|Z ?_
 refine Ge1 (Aj J6 C) λb3=>Ge0 (C9 J6)<|Z ?_
 refine Ao C (λaz=>?_)<|λaz=>Z ?_
 ·exact absurd az dc
 refine G.e (Ab c_ C C<|bh8 kd wd mo) ?_
 rintro _ _ ⟨_,_,⟨rfl,rfl⟩,rfl,rfl⟩
 refine Z ?_
 refine Ao C (λay=>?_)<|λay=>Z ?_
 ·exact absurd hw ay
 refine Ge1 (Aj K0 C) λb4=>Ge0 (Co K0)<|Z ?_
 refine G.e (Ab c_ C C<|fq6 (nd:=nd) (es:=([]:List Pt)) (Sl.nil _) (cn0 aw)<|Ba hT Ah) ?_
 rintro _ _ ⟨_,_,⟨au,av,ar,aq,rfl,rfl⟩,rfl,rfl⟩
 refine Z ?_
 refine Ge1 (Aj ab6 C) λb9=>Ge0 (Db ab6)<|Z ?_
 refine G.e (Ab c_ C C<|fe3 (nd:=nd) (es:=([]:List Pt)) (Sl.nil _) (cn0 aw)<|Ba hT Ah) ?_
 rintro _ _ ⟨_,_,⟨aj,M,ah,ai,rfl,rfl⟩,rfl,rfl⟩
 refine Z ?_
 refine Ge1 (Aj L6 C) λa4=>Ge0 (Db L6)<|Z ?_
 refine G.e (Ab c_ C C<|fb6 (nd:=nd) (es:=([]:List Pt)) (Sl.nil _)<|cn0 aw) ?_
 rintro _ _ ⟨_,_,⟨ad,an,ap,ak,rfl,rfl⟩,rfl,rfl⟩
 refine Z ?_
 refine Ge1 (Aj ad0 C) λa3=>Ge0 (C9 ad0)<|Z ?_
 refine G.e (Ab c_ C C<|fe0 (nd:=nd) (es:=([]:List Pt)) (Sl.nil _) (cn0 aw)<|Ba hT Ah) ?_
 rintro _ _ ⟨_,_,⟨ae,aa,ao,ab,rfl,rfl⟩,rfl,rfl⟩
 refine Z ?_
 refine Ge1 (Aj V5 C) λa5=>Ge0 (E7 V5)<|Z ?_
 refine Gr (j8.max4 C C C C)<|Z ?_
 refine Ao C (λax=>?_)<|λax=>Z ?_
 ·exact absurd ax dc
 refine Gr (Cn (cells:=[e7 kd,e7 wd,e7 mo,e7 bd,e7<|(-1),e7<|(-1),.slice none 0 0,e7 nd,.slice none 0 0,e7 nd,.slice au ([]:List Pt).length av,.slice ar (j9 nd ([]:List Pt)).length aq,e7 nd,.slice aj ([]:List Pt).length M,.slice ah (j5 nd ([]:List Pt)).length ai,e7 nd,.slice ad ([]:List Pt).length an,e7<|V6 nd ([]:List Pt) / 3,.slice ap (H9 nd ([]:List Pt)).length ak,e7 nd,.slice ae ([]:List Pt).length aa,e7<|F8 nd ([]:List Pt),e7<|J9 nd ([]:List Pt),.slice ao (r9 nd ([]:List Pt)).length ab,e7 0]) H2 Et fw0 C kr)<|Ge0 (Eff.sq H2)<|Z ?_
 exact Cp C H2 C C mm C (([vk 105 au av ([]:List Pt),vc 3 (.slice ar (j9 nd ([]:List Pt)).length aq)<|j9 nd ([]:List Pt),vc 105 (.slice aj ([]:List Pt).length M)<|([]:List Pt),vc 3 (.slice ah (j5 nd ([]:List Pt)).length ai)<|j5 nd ([]:List Pt),vc 105 (.slice ad ([]:List Pt).length an)<|([]:List Pt),vc 3 (.slice ap (H9 nd ([]:List Pt)).length ak)<|H9 nd ([]:List Pt),vc 105 (.slice ae ([]:List Pt).length aa)<|([]:List Pt),vc 3 (.slice ao (r9 nd ([]:List Pt)).length ab)<|r9 nd ([]:List Pt)]++I)) Az ⟨⟨⟨none,0⟩,⟨none,0⟩,⟨⟨au,av⟩,⟨ar,aq⟩,⟨aj,M⟩,⟨ah,ai⟩,⟨ad,an⟩,⟨ap,ak⟩,⟨ae,aa⟩,⟨ao,ab⟩⟩⟩,[vk 105 au av ([]:List Pt),vc 3 (.slice ar (j9 nd ([]:List Pt)).length aq)<|j9 nd ([]:List Pt),vc 105 (.slice aj ([]:List Pt).length M)<|([]:List Pt),vc 3 (.slice ah (j5 nd ([]:List Pt)).length ai)<|j5 nd ([]:List Pt),vc 105 (.slice ad ([]:List Pt).length an)<|([]:List Pt),vc 3 (.slice ap (H9 nd ([]:List Pt)).length ak)<|H9 nd ([]:List Pt),vc 105 (.slice ae ([]:List Pt).length aa)<|([]:List Pt),vc 3 (.slice ao (r9 nd ([]:List Pt)).length ab)<|r9 nd ([]:List Pt)],rfl,⟨Sl.nil _,Sl.nil _,⟨A5,A5,A5,A5,A5,A5,A5,A5⟩⟩,rfl⟩
theorem dq5{k:EnS}{v:KpV}{T:List Item}(hH:Has I T)(hF:KpF κ T nd k v)(hK:EnV nd kd wd mo bd k)(ao:k.b.ws.length<=4000){xe:Ev}(hx:H4 nd xe)(ht:k.tm<=xe.tm)(hT:F4 κ I 0 p5):eu prog κ 36 [.agg (kx kd wd mo bd nd k v).toArray,.agg (ez xe).toArray] I (λr J=>∃(v':KpV) (Y:List Item) (a:Option Addr) (c:Nat),r = .tuple #[.agg (kx kd wd mo bd nd ((⟨k.b,(p6 kd wd mo (k.S,[]) xe).1,xe.tm⟩:EnS)) v').toArray,.slice a ((p6 kd wd mo (k.S,[]) xe).2).length c,e7 0]/\KpF κ (Y++T) nd (⟨k.b,(p6 kd wd mo (k.S,[]) xe).1,xe.tm⟩:EnS) v'/\Sl κ (Y++T) (.slice a ((p6 kd wd mo (k.S,[]) xe).2).length c) (p6 kd wd mo (k.S,[]) xe).2/\J=Y++I):=by
 have an:=bc2 hK.inv hK.tm.1 ht hx hK.win
 refine Ce2 Tryz.func36 C C ?_
 refine Al<|Ge1 (Av (cs:=[_,_,_,_,_,_,_,_,_,_,_,_,_,_,_,_,_,_,_,_,_,_,_,_,_]) C C C) λb1=>Ge1 (Av (cs:=[_,_,_,_,_,_,_]) C C C) λb2=>Ge1 (Aj H2 C) λb3=>Ga C<|Ga C<|Ar<|Ax<|Al<|Gr (j8.lj H2) ?_
 refine Gc0 (Ab c_ C C<|at3 (k:=k) (v:=v) (KpF.fit hF<|B4 (κ:=κ)<|by repeat (first|exact hH|exact Bh _|apply Bg|apply B2|apply Bp)) hK om<|Ba hT Ah) ?_
 refine Gr (Ey C)<|Ar<|W.no C<|Bc<|Ak<|Al<|Gr (j8.lj H2) ?_
 refine Gl7 z6 ?_
 refine G.e (Ab c_ C C<|dn8 (T:=T) (X:=k.S) (xe:=xe) ta2 hF.l hF.p hK.inv hK.win hx ⟨hK.tm.1,ht⟩<|Ba hT Ah) ?_
 rintro _ _ ⟨_,_,⟨ab,M,Y6,ah,ad,rfl,ai,ak,aj,rfl⟩,rfl,rfl⟩
 refine Dp (J:=e8 b3 zk 47::e8 b2 (ez xe) 54::e8 b1 (kx kd wd mo bd nd k v) 47::(Y6++I)) (Cj<|Cz (A:=Y6) (L:=[e8 b3 zk 47,e8 b2 (ez xe) 54,e8 b1 (kx kd wd mo bd nd k v) 47]) (T:=I)) ?_
 show G prog κ _ _ _ _ ([(17,.tuple #[.agg (ky kd wd mo bd k.b.lt k.b.mr v.w.a k.b.ws.length v.w.c nd ab.a (p6 kd wd mo (k.S,[]) xe).1.length ab.c (j6 (p6 kd wd mo (k.S,[]) xe).1) M xe.tm).toArray,.slice ah (p6 kd wd mo (k.S,[]) xe).2.length ad,e7 0]),(16,.agg (ez xe).toArray),(15,.agg (kx kd wd mo bd nd k v).toArray),(12,.bool false),(11,.bool true),(10,.agg (kx kd wd mo bd nd k v).toArray),(6,e7 0),(5,.slice none 0 0),(4,pt b3),(3,pt b2),(2,pt b1),(0,.agg (kx kd wd mo bd nd k v).toArray),(1,.agg (ez xe).toArray)]:Env) (e8 b3 zk 47::e8 b2 (ez xe) 54::e8 b1 (kx kd wd mo bd nd k v) 47::(Y6++I))
 refine Gm C<|Gr (Bf C C)<|Gr (Bf C C)<|Gr (Bf C C)<|Ge1 (Aj H2 C) λb9=>Ge0 (Eff.sq H2) ?_
 refine Ga C<|Ga C<|Ar<|A0 (S4 9 8 7 4)<|Al<|Gr (j8.lj H2) ?_
 refine G.e (Ab c_ C C<|cc1 (T:=(Y6++T)) (k:=(⟨k.b,(p6 kd wd mo (k.S,[]) xe).1,xe.tm⟩:EnS)) (v:=(⟨v.w,ab,M⟩:KpV)) ta2 ⟨hF.w.fit<|Br _ _,ai,ak⟩ an.inv.val<|Hd ao dc) ?_
 rintro _ _ ⟨_,_,⟨aa,Y11,rfl,ae,rfl⟩,rfl,rfl⟩
 refine Dp (J:=e8 b9 (ky kd wd mo bd k.b.lt k.b.mr v.w.a k.b.ws.length v.w.c nd ab.a (p6 kd wd mo (k.S,[]) xe).1.length ab.c (j6 (p6 kd wd mo (k.S,[]) xe).1) M xe.tm) 47::e8 b3 zk 47::e8 b2 (ez xe) 54::e8 b1 (kx kd wd mo bd nd k v) 47::(Y11++(Y6++I))) (Cj<|Cz (A:=Y11) (L:=[e8 b9 (ky kd wd mo bd k.b.lt k.b.mr v.w.a k.b.ws.length v.w.c nd ab.a (p6 kd wd mo (k.S,[]) xe).1.length ab.c (j6 (p6 kd wd mo (k.S,[]) xe).1) M xe.tm) 47,e8 b3 zk 47,e8 b2 (ez xe) 54,e8 b1 (kx kd wd mo bd nd k v) 47]) (T:=(Y6++I))) ?_
 show G prog κ _ _ _ _ ([(22,.agg (ky kd wd mo bd k.b.lt k.b.mr aa.w.a k.b.ws.length aa.w.c nd aa.l.a (p6 kd wd mo (k.S,[]) xe).1.length aa.l.c (j6 (p6 kd wd mo (k.S,[]) xe).1) aa.p xe.tm).toArray),(21,.agg (ky kd wd mo bd k.b.lt k.b.mr v.w.a k.b.ws.length v.w.c nd ab.a (p6 kd wd mo (k.S,[]) xe).1.length ab.c (j6 (p6 kd wd mo (k.S,[]) xe).1) M xe.tm).toArray),(9,e7 0),(8,.slice ah (p6 kd wd mo (k.S,[]) xe).2.length ad),(7,pt b9),(4,pt b3)]:Env) (e8 b9 (ky kd wd mo bd k.b.lt k.b.mr v.w.a k.b.ws.length v.w.c nd ab.a (p6 kd wd mo (k.S,[]) xe).1.length ab.c (j6 (p6 kd wd mo (k.S,[]) xe).1) M xe.tm) 47::e8 b3 zk 47::e8 b2 (ez xe) 54::e8 b1 (kx kd wd mo bd nd k v) 47::(Y11++(Y6++I)))
 refine Gm C<|Gm C<|Ge0 (Eff.sq H2) ?_
 exact Ga C<|Ga C<|Ar<|B3<|Cs C H2 C C C mm C (((Y11++Y6)++I)) ta7 ⟨aa,(Y11++Y6),ah,ad,rfl,(by rw [Fv];exact ae),(by rw [Fv];exact Bd aj<|Br _ _),rfl⟩
end Go.Sl
