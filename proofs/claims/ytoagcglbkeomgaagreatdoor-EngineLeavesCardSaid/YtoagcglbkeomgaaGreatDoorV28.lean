/- A part of the proofs of statements of this seat: contracts of functions, and the plain laws that they lean on. No conditions. -/
import Derived.Test.YtoagcglbkeomgaaGreatDoorV27
set_option linter.unusedVariables false
set_option linter.unusedSimpArgs false
set_option linter.unusedSectionVars false
open Go.Proofs.Tryz (prog)
set_option maxHeartbeats 4000000
namespace Go.Sl
open Go.Proofs
set_option maxRecDepth 4000
variable{κ:Ctx}{I T:List Item}
attribute [local irreducible] W G V D A j8 Eff
section
variable {nd kd wd mo bd:Int}{k:EnS}{e:Ev}
theorem co4(h:bj0 nd kd wd mo bd k)(he:H7 nd e)(ht:k.b.mr<e.tm):(k.b.out bd e).Pairwise (λa b=>a.tm<=b.tm)/\∀x∈k.b.out bd e,H7 nd x/\k.tm<=x.tm:=by
 obtain ⟨h1,h2⟩:=h.buf.out (e:=e) ht
 refine ⟨h2,λx M=>?_⟩
 have h3:H7 nd x:=by
  rcases mem_push.1 (ba4.1 M).1 with rfl|h4
  ·exact he
  exact h.fit x h4
 have h4:=h1 x M
 have h5:=h.tm
 have h6:=h3.tm
 exact ⟨h3,by omega⟩
theorem dj5(h:bj0 nd kd wd mo bd k):k.b.ws.Pairwise (λa b=>a.tm<=b.tm)/\∀x∈k.b.ws,H7 nd x/\k.tm<=x.tm:=by
 refine ⟨h.buf.asc,λx M=>?_⟩
 have h3:=h.fit x M
 have h4:=h.buf.rng x M
 have h5:=h.tm
 have h6:=h3.tm
 exact ⟨h3,by omega⟩
theorem df1(s:BfS)(bd:Int)(e:Ev):(s.out bd e).length<=s.ws.length+1:=by
 unfold BfS.out ap2
 exact G_ (Gs _ _)<|by rw [ac0];exact Gd _
theorem bx0(s:BfS)(bd:Int)(e:Ev):(s.push bd e).ws.length<=s.ws.length+1:=by
 unfold BfS.push beyond
 exact G_ (Gs _ _)<|by rw [ac0];exact Gd _
end
theorem ft2{nd kd wd mo bd:Int}{k:EnS}{v:KpV}(hH:Has I T)(hF:KpF κ T nd k v)(hK:bj0 nd kd wd mo bd k)(au:k.b.ws.length<=4000){xe:Ev}(hx:H7 nd xe)(ht:k.b.mr<xe.tm)(hT:F4 κ I 0 p6):eu prog κ 17 [.agg (kx kd wd mo bd nd k v).toArray,.agg (ez xe).toArray] I (λr J=>∃(v':KpV) (Y:List Item) (a:Option Addr) (c:Nat),r = .tuple #[.agg (kx kd wd mo bd nd ((k.feed kd wd mo bd xe)) v').toArray,.slice a ((k.da9 kd wd mo bd xe)).length c,e7 0]/\KpF κ (Y++T) nd (k.feed kd wd mo bd xe) v'/\Sl κ (Y++T) (.slice a ((k.da9 kd wd mo bd xe)).length c) (k.da9 kd wd mo bd xe)/\J=Y++I):=by
 have ap:=co4 hK hx ht
 refine Ce2 Tryz.func17 C C ?_
 refine Ak<|Ge1 (Au (cs:=[_,_,_,_,_,_,_,_,_,_,_,_,_,_,_,_,_,_,_,_,_,_,_,_,_]) C C C) λb1=>Ge1 (Au (cs:=[_,_,_,_,_,_,_]) C C C) λb2=>Ge1 (Aj H2 C) λb3=>Z ?_
 refine Gc0 (Ac c_ C C<|au0 (k:=k) (v:=v) (KpF.fit hF<|B0 (κ:=κ)<|by repeat (first|exact hH|exact Bf _|apply Be|apply B4|apply Bn)) hK.v om<|A8 hT Ah)<|Z ?_
 refine G.e (Ac c_ C C<|ab4 xe) ?_
 rintro _ _ ⟨_,_,⟨rfl,rfl⟩,rfl,rfl⟩
 refine Z ?_
 refine A1 (S5 18 7 4 3 2)<|Am C (λar=>?_)<|λar=>?_
 ·exact absurd hx.chk ar
 refine Bc<|Ao<|Ax<|Ak<|Gr (j8.lj H2) ?_
 refine Gl7 s9 ?_
 refine Gc0 (Ac c_ C C<|bu2 (nd:=nd) (e:=xe) hx) ?_
 refine Gr (E3 C)<|Ar<|W.no C<|Bc<|Ao<|Ak<|Gf aw7 C<|Gl4 J4 ?_
 refine Gl7 s9 ?_
 refine G.e (Ac c_ C C<|fi1 (T:=T) (bf:=k.b) (e:=xe) ta2 hF.w hK.buf om hx.chk ht hx.tm om) ?_
 rintro _ _ ⟨_,_,⟨ab,aa,aj,ai,Y4,rfl,an,ao,rfl⟩,rfl,rfl⟩
 refine Dq (J:=e8 b3 zk 47::e8 b2 (ez xe) 54::e8 b1 (kx kd wd mo bd nd k v) 47::(Y4++I)) (Cj<|C1 (A:=Y4) (L:=[e8 b3 zk 47,e8 b2 (ez xe) 54,e8 b1 (kx kd wd mo bd nd k v) 47]) (T:=I)) ?_
 show G prog κ _ _ _ _ ([(30,.tuple #[.agg #[e7 bd,e7<|(k.b.push bd xe).lt,e7<|(k.b.push bd xe).mr,.slice ab (k.b.push bd xe).ws.length aa],.slice aj ((k.b.out bd xe)).length ai,e7 0]),(29,.agg (ez xe).toArray),(28,.agg #[e7 bd,e7<|k.b.lt,e7<|k.b.mr,.slice v.w.a k.b.ws.length v.w.c]),(27,.pointer<|some ⟨b1,3,none⟩),(24,.bool false),(23,.bool true),(22,.agg (ez xe).toArray),(21,.agg (kx kd wd mo bd nd k v).toArray),(18,.bool<|decide<|(z6 xe)≠0),(7,e7<|z6 xe),(4,pt b3),(3,pt b2),(2,pt b1)]:Env) (e8 b3 zk 47::e8 b2 (ez xe) 54::e8 b1 (kx kd wd mo bd nd k v) 47::(Y4++I))
 refine Z ?_
 refine Ge1 (Aj J4 C) λb9=>Ge0 (C8 J4) ?_
 refine Ga C<|Ga C<|Ar<|A1 (S5 10 9 8 4 2)<|Ax<|Ak<|Gm C<|Gr (Cb C C)<|Ar<|Am C (λaq=>?_)<|λaq=>?_
 ·exact absurd aq dc
 refine Bc<|Ao<|Ak<|Gr (j8.lj H2) ?_
 refine Gl4 J4 ?_
 refine Gm C<|G.e (Ac c_ C C<|bh7 (T:=(Y4++T)) (k:=k) (v:=v) (bf:=(k.b.push bd xe)) (evs:=(k.b.out bd xe)) ta2 (KpF.fit hF<|Bu _ _) hK an ao ap.1 ap.2 (by have h9:=bx0 k.b bd xe;omega) (by have h9:=df1 k.b bd xe;omega)<|A8 hT Ah) ?_
 rintro _ _ ⟨_,_,⟨M,Y11,ae,ad,rfl,ah,ak,rfl⟩,rfl,rfl⟩
 refine Dq (J:=e8 b9 [e7 bd,e7<|(k.b.push bd xe).lt,e7<|(k.b.push bd xe).mr,.slice ab (k.b.push bd xe).ws.length aa] 32::e8 b3 zk 47::e8 b2 (ez xe) 54::e8 b1 (kx kd wd mo bd nd k v) 47::(Y11++(Y4++I))) (Cj<|C1 (A:=Y11) (L:=[e8 b9 [e7 bd,e7<|(k.b.push bd xe).lt,e7<|(k.b.push bd xe).mr,.slice ab (k.b.push bd xe).ws.length aa] 32,e8 b3 zk 47,e8 b2 (ez xe) 54,e8 b1 (kx kd wd mo bd nd k v) 47]) (T:=(Y4++I))) ?_
 show G prog κ _ _ _ _ ([(41,.tuple #[.agg (kx kd wd mo bd nd ((k.rel kd wd mo (k.b.push bd xe)<|k.b.out bd xe)) M).toArray,.slice ae ((X9 kd wd mo k.S<|k.b.out bd xe).2).length ad,e7 0]),(40,.slice aj ((k.b.out bd xe)).length ai),(39,.agg #[e7 bd,e7<|(k.b.push bd xe).lt,e7<|(k.b.push bd xe).mr,.slice ab (k.b.push bd xe).ws.length aa]),(38,.agg (kx kd wd mo bd nd k v).toArray),(35,.bool<|decide<|0≠0),(34,e7 0),(10,e7 0),(9,.slice aj ((k.b.out bd xe)).length ai),(8,pt b9),(4,pt b3),(2,pt b1)]:Env) (e8 b9 [e7 bd,e7<|(k.b.push bd xe).lt,e7<|(k.b.push bd xe).mr,.slice ab (k.b.push bd xe).ws.length aa] 32::e8 b3 zk 47::e8 b2 (ez xe) 54::e8 b1 (kx kd wd mo bd nd k v) 47::(Y11++(Y4++I)))
 refine Z ?_
 refine Ge0 (Eff.sq H2)<|Z ?_
 exact Cu C H2 C C C mm C (((Y11++Y4)++I)) ta7 ⟨M,(Y11++Y4),ae,ad,rfl,(by rw [Fr];exact ah),(by rw [Fr];exact ak),rfl⟩
theorem fg7{nd kd wd mo bd:Int}{k:EnS}{v:KpV}(hF:KpF κ I nd k v)(hK:bj0 nd kd wd mo bd k)(ad:k.b.ws.length<=4000){xe:Ev}(hx:H7 nd xe)(ht:xe.tm<=k.b.mr)(hT:F4 κ I 0 p6):eu prog κ 17 [.agg (kx kd wd mo bd nd k v).toArray,.agg (ez xe).toArray] I (λr J=>r = .tuple #[.agg zk.toArray,.slice none 0 0,e7 10]/\I=J):=by
 refine Ce2 Tryz.func17 C C ?_
 refine Ak<|Ge1 (Au (cs:=[_,_,_,_,_,_,_,_,_,_,_,_,_,_,_,_,_,_,_,_,_,_,_,_,_]) C C C) λb1=>Ge1 (Au (cs:=[_,_,_,_,_,_,_]) C C C) λb2=>Ge1 (Aj H2 C) λb3=>Z ?_
 refine Gc0 (Ac c_ C C<|au0 (k:=k) (v:=v) (KpF.fit hF Ah) hK.v om<|A8 hT Ah)<|Z ?_
 refine G.e (Ac c_ C C<|ab4 xe) ?_
 rintro _ _ ⟨_,_,⟨rfl,rfl⟩,rfl,rfl⟩
 refine Z ?_
 refine Am C (λaa=>?_)<|λaa=>Z ?_
 ·exact absurd hx.chk aa
 refine Gc0 (Ac c_ C C<|bu2 (nd:=nd) (e:=xe) hx)<|Z ?_
 refine G.e (Ac c_ C C<|ds1 (bf:=k.b) (e:=xe) (Bg hF.w<|B0 (κ:=κ)<|by repeat (first|exact hH|exact Bf _|apply Be|apply B4|apply Bn)) hK.buf om hx.chk ht) ?_
 rintro _ _ ⟨_,_,⟨ab,ae,rfl,rfl⟩,rfl,rfl⟩
 refine Z ?_
 refine Ge1 (Aj J4 C) λb6=>Ge0 (C8 J4)<|Z ?_
 refine Am C (λM=>?_)<|λM=>?_
 ·refine Ak (Gr (Cl (cells:=zk) H2 Et fx4 C kr)<|Gm C<|Ge0 (Eff.sq H2)<|Z ?_)
  exact Cu C H2 C C C mm C I Ah ⟨rfl,rfl⟩
 exact absurd dc M
theorem fg4{nd kd wd mo bd:Int}{k:EnS}{v:KpV}(hH:Has I T)(hF:KpF κ T nd k v)(hK:bj0 nd kd wd mo bd k)(ar:k.b.ws.length<=4000)(hT:F4 κ I 0 p6):eu prog κ 26 [.agg (kx kd wd mo bd nd k v).toArray] I (λr J=>∃(v':KpV) (Y:List Item) (a:Option Addr) (c:Nat),r = .tuple #[.agg (kx kd wd mo bd nd ((k.flush kd wd mo)) v').toArray,.slice a ((k.ge0 kd wd mo)).length c,e7 0]/\KpF κ (Y++T) nd (k.flush kd wd mo) v'/\Sl κ (Y++T) (.slice a ((k.ge0 kd wd mo)).length c) (k.ge0 kd wd mo)/\J=Y++I):=by
 have ap:=dj5 hK
 refine Ce1 Tryz.func26 C C ?_
 refine Ak<|Ge1 (Au (cs:=[_,_,_,_,_,_,_,_,_,_,_,_,_,_,_,_,_,_,_,_,_,_,_,_,_]) C C C) λb1=>Ge1 (Aj H2 C) λb2=>Z ?_
 refine Gc0 (Ac c_ C C<|au0 (k:=k) (v:=v) (KpF.fit hF<|B0 (κ:=κ)<|by repeat (first|exact hH|exact Bf _|apply Be|apply B4|apply Bn)) hK.v om<|A8 hT Ah)<|Z ?_
 refine G.e (Ac c_ C C<|ds2 (T:=T) (bf:=k.b) ta2 hF.w hK.buf om) ?_
 rintro _ _ ⟨_,_,⟨aa,ab,ah,ai,Y3,rfl,ao,aq,rfl⟩,rfl,rfl⟩
 refine Dq (J:=e8 b2 zk 47::e8 b1 (kx kd wd mo bd nd k v) 47::(Y3++I)) (Cj<|C1 (A:=Y3) (L:=[e8 b2 zk 47,e8 b1 (kx kd wd mo bd nd k v) 47]) (T:=I)) ?_
 show G prog κ _ _ _ _ ([(15,.tuple #[.agg #[e7 bd,e7<|k.b.flush.lt,e7<|k.b.flush.mr,.slice aa k.b.flush.ws.length ab],.slice ah k.b.ws.length ai,e7 0]),(14,.agg #[e7 bd,e7<|k.b.lt,e7<|k.b.mr,.slice v.w.a k.b.ws.length v.w.c]),(13,.pointer<|some ⟨b1,3,none⟩),(10,.bool false),(9,.bool true),(8,.agg (kx kd wd mo bd nd k v).toArray),(4,e7 0),(3,.slice none 0 0),(2,pt b2),(1,pt b1),(0,.agg (kx kd wd mo bd nd k v).toArray)]:Env) (e8 b2 zk 47::e8 b1 (kx kd wd mo bd nd k v) 47::(Y3++I))
 refine Z ?_
 refine Ge1 (Aj J4 C) λb8=>Ge0 (C8 J4) ?_
 refine Ga C<|Ga C<|Ar<|A1 (S5 7 6 5 2 1)<|Ax<|Ak<|Gm C<|Gr (Cb C C)<|Ar<|Am C (λan=>?_)<|λan=>?_
 ·exact absurd an dc
 refine Bc<|Ao<|Ak<|Gr (j8.lj H2) ?_
 refine Gl4 J4 ?_
 refine Gm C<|G.e (Ac c_ C C<|bh7 (T:=(Y3++T)) (k:=k) (v:=v) (bf:=k.b.flush) (evs:=k.b.ws) ta2 (KpF.fit hF<|Bu _ _) hK ao aq ap.1 ap.2 (by show (0:Nat)<=100000;omega) om<|A8 hT Ah) ?_
 rintro _ _ ⟨_,_,⟨M,Y10,ae,ad,rfl,ak,aj,rfl⟩,rfl,rfl⟩
 refine Dq (J:=e8 b8 [e7 bd,e7<|k.b.flush.lt,e7<|k.b.flush.mr,.slice aa k.b.flush.ws.length ab] 32::e8 b2 zk 47::e8 b1 (kx kd wd mo bd nd k v) 47::(Y10++(Y3++I))) (Cj<|C1 (A:=Y10) (L:=[e8 b8 [e7 bd,e7<|k.b.flush.lt,e7<|k.b.flush.mr,.slice aa k.b.flush.ws.length ab] 32,e8 b2 zk 47,e8 b1 (kx kd wd mo bd nd k v) 47]) (T:=(Y3++I))) ?_
 show G prog κ _ _ _ _ ([(26,.tuple #[.agg (kx kd wd mo bd nd ((k.rel kd wd mo k.b.flush k.b.ws)) M).toArray,.slice ae ((X9 kd wd mo k.S k.b.ws).2).length ad,e7 0]),(25,.slice ah k.b.ws.length ai),(24,.agg #[e7 bd,e7<|k.b.flush.lt,e7<|k.b.flush.mr,.slice aa k.b.flush.ws.length ab]),(23,.agg (kx kd wd mo bd nd k v).toArray),(20,.bool<|decide<|0≠0),(19,e7 0),(7,e7 0),(6,.slice ah k.b.ws.length ai),(5,pt b8),(2,pt b2),(1,pt b1)]:Env) (e8 b8 [e7 bd,e7<|k.b.flush.lt,e7<|k.b.flush.mr,.slice aa k.b.flush.ws.length ab] 32::e8 b2 zk 47::e8 b1 (kx kd wd mo bd nd k v) 47::(Y10++(Y3++I)))
 refine Z ?_
 refine Ge0 (Eff.sq H2)<|Z ?_
 exact Cu C H2 C C C mm C (((Y10++Y3)++I)) ta7 ⟨M,(Y10++Y3),ae,ad,rfl,(by rw [Fr];exact ak),(by rw [Fr];exact aj),rfl⟩
end Go.Sl
namespace Go.Sl
variable {P:Program}{κ:Ctx}{N:Frm}{L:Env}{J:List Item}{d:Option Tmp}{ty:TypeId}{ps:String}{af:Array Edge}{gd:Option (Nat×Bool)}
theorem j8.max4{x y z u:Operand}(hx:er L x=some (e7 0))(hy:er L y=some (e7 0))(hz:er L z=some (e7 0))(hu:er L u=some (e7 0)){aa:Array TypeId} :
  j8 P κ N ⟨d,.call {callee:= .builtin .max,args:= #[x,y,z,u],argTypes:=aa},ty,ps,af,gd⟩ L J (e7 0):=
 λa w M _=>by simp [execOp,resolve,invoke,builtin,M.eval hx,M.eval hy,M.eval hz,M.eval hu,Builtin.max_,Builtin.max2]
end Go.Sl
namespace Go.Sl
open Go.Proofs
set_option maxRecDepth 4000
variable{bd kd mo nd wd:Int}
variable {κ:Ctx}{I:List Item}
attribute [local irreducible] W G V D A j8 Eff
theorem cn1(h:0<=nd/\nd<=64):s6 nd ([]:List Pt):=⟨h,List.Pairwise.nil,λe M=>by cases M⟩
theorem ff9(T:List Item)(ar:0<=nd/\nd<=64)(hw:s7 kd wd mo=0)(hb:0<=bd/\bd<=1048576)(hT:F4 κ I 0 p6):eu prog κ 14 [e7 nd,e7 bd,.agg #[e7 kd,e7 wd,e7 mo]] I (λr J=>∃(v':KpV) (Y:List Item),r = .tuple #[.agg (kx kd wd mo bd nd ((⟨⟨-1, -1,[]⟩,[],0⟩:EnS)) v').toArray,e7 0]/\KpF κ (Y++T) nd (⟨⟨-1, -1,[]⟩,[],0⟩:EnS) v'/\J=Y++I):=by
 refine Ce3 Tryz.func14 C C ?_
 refine Ak<|Ge1 (Au (cs:=[_,_,_]) C C C) λb1=>Ge1 (Aj H2 C) λb2=>Z ?_
 refine A3 (d:=21) C (λa0=>?_)<|λa0=>Z ?_
 ·omega
 refine Am C (λa1=>?_)<|λa1=>Z ?_
 ·omega
 refine Gc0 (Ac c_ C C<|fi2 hb)<|Z ?_
 refine Ge1 (Aj J4 C) λb3=>Ge0 (C8 J4)<|Z ?_
 refine Am C (λaz=>?_)<|λaz=>Z ?_
 ·exact absurd az dc
 refine G.e (Ac c_ C C<|bi5 kd wd mo) ?_
 rintro _ _ ⟨_,_,⟨rfl,rfl⟩,rfl,rfl⟩
 refine Z ?_
 refine Am C (λay=>?_)<|λay=>Z ?_
 ·exact absurd hw ay
 refine Ge1 (Aj J8 C) λb4=>Ge0 (Cs J8)<|Z ?_
 refine G.e (Ac c_ C C<|fr9 (nd:=nd) (es:=([]:List Pt)) (Sl.nil _) (cn1 ar)<|A8 hT Ah) ?_
 rintro _ _ ⟨_,_,⟨aw,aq,av,au,rfl,rfl⟩,rfl,rfl⟩
 refine Z ?_
 refine Ge1 (Aj ab7 C) λb9=>Ge0 (Da ab7)<|Z ?_
 refine G.e (Ac c_ C C<|ff4 (nd:=nd) (es:=([]:List Pt)) (Sl.nil _) (cn1 ar)<|A8 hT Ah) ?_
 rintro _ _ ⟨_,_,⟨ad,aa,ak,ab,rfl,rfl⟩,rfl,rfl⟩
 refine Z ?_
 refine Ge1 (Aj L4 C) λa4=>Ge0 (Da L4)<|Z ?_
 refine G.e (Ac c_ C C<|fc6 (nd:=nd) (es:=([]:List Pt)) (Sl.nil _)<|cn1 ar) ?_
 rintro _ _ ⟨_,_,⟨an,ai,ae,ao,rfl,rfl⟩,rfl,rfl⟩
 refine Z ?_
 refine Ge1 (Aj ad3 C) λa5=>Ge0 (C8 ad3)<|Z ?_
 refine G.e (Ac c_ C C<|ff1 (nd:=nd) (es:=([]:List Pt)) (Sl.nil _) (cn1 ar)<|A8 hT Ah) ?_
 rintro _ _ ⟨_,_,⟨aj,ah,ap,M,rfl,rfl⟩,rfl,rfl⟩
 refine Z ?_
 refine Ge1 (Aj V6 C) λa3=>Ge0 (E5 V6)<|Z ?_
 refine Gr (j8.max4 C C C C)<|Z ?_
 refine Am C (λax=>?_)<|λax=>Z ?_
 ·exact absurd ax dc
 refine Gr (Cl (cells:=[e7 kd,e7 wd,e7 mo,e7 bd,e7<|(-1),e7<|(-1),.slice none 0 0,e7 nd,.slice none 0 0,e7 nd,.slice aw ([]:List Pt).length aq,.slice av (j9 nd ([]:List Pt)).length au,e7 nd,.slice ad ([]:List Pt).length aa,.slice ak (j6 nd ([]:List Pt)).length ab,e7 nd,.slice an ([]:List Pt).length ai,e7<|V7 nd ([]:List Pt) / 3,.slice ae (H3 nd ([]:List Pt)).length ao,e7 nd,.slice aj ([]:List Pt).length ah,e7<|F8 nd ([]:List Pt),e7<|J7 nd ([]:List Pt),.slice ap (r8 nd ([]:List Pt)).length M,e7 0]) H2 Et fx4 C kr)<|Ge0 (Eff.sq H2)<|Z ?_
 exact Cp C H2 C C mm C (([vk 105 aw aq ([]:List Pt),vc 3 (.slice av (j9 nd ([]:List Pt)).length au)<|j9 nd ([]:List Pt),vc 105 (.slice ad ([]:List Pt).length aa)<|([]:List Pt),vc 3 (.slice ak (j6 nd ([]:List Pt)).length ab)<|j6 nd ([]:List Pt),vc 105 (.slice an ([]:List Pt).length ai)<|([]:List Pt),vc 3 (.slice ae (H3 nd ([]:List Pt)).length ao)<|H3 nd ([]:List Pt),vc 105 (.slice aj ([]:List Pt).length ah)<|([]:List Pt),vc 3 (.slice ap (r8 nd ([]:List Pt)).length M)<|r8 nd ([]:List Pt)]++I)) Az ⟨⟨⟨none,0⟩,⟨none,0⟩,⟨⟨aw,aq⟩,⟨av,au⟩,⟨ad,aa⟩,⟨ak,ab⟩,⟨an,ai⟩,⟨ae,ao⟩,⟨aj,ah⟩,⟨ap,M⟩⟩⟩,[vk 105 aw aq ([]:List Pt),vc 3 (.slice av (j9 nd ([]:List Pt)).length au)<|j9 nd ([]:List Pt),vc 105 (.slice ad ([]:List Pt).length aa)<|([]:List Pt),vc 3 (.slice ak (j6 nd ([]:List Pt)).length ab)<|j6 nd ([]:List Pt),vc 105 (.slice an ([]:List Pt).length ai)<|([]:List Pt),vc 3 (.slice ae (H3 nd ([]:List Pt)).length ao)<|H3 nd ([]:List Pt),vc 105 (.slice aj ([]:List Pt).length ah)<|([]:List Pt),vc 3 (.slice ap (r8 nd ([]:List Pt)).length M)<|r8 nd ([]:List Pt)],rfl,⟨Sl.nil _,Sl.nil _,⟨A5,A5,A5,A5,A5,A5,A5,A5⟩⟩,rfl⟩
theorem dr4{k:EnS}{v:KpV}{T:List Item}(hH:Has I T)(hF:KpF κ T nd k v)(hK:EnV nd kd wd mo bd k)(ao:k.b.ws.length<=4000){xe:Ev}(hx:H7 nd xe)(ht:k.tm<=xe.tm)(hT:F4 κ I 0 p6):eu prog κ 36 [.agg (kx kd wd mo bd nd k v).toArray,.agg (ez xe).toArray] I (λr J=>∃(v':KpV) (Y:List Item) (a:Option Addr) (c:Nat),r = .tuple #[.agg (kx kd wd mo bd nd ((⟨k.b,(p5 kd wd mo (k.S,[]) xe).1,xe.tm⟩:EnS)) v').toArray,.slice a ((p5 kd wd mo (k.S,[]) xe).2).length c,e7 0]/\KpF κ (Y++T) nd (⟨k.b,(p5 kd wd mo (k.S,[]) xe).1,xe.tm⟩:EnS) v'/\Sl κ (Y++T) (.slice a ((p5 kd wd mo (k.S,[]) xe).2).length c) (p5 kd wd mo (k.S,[]) xe).2/\J=Y++I):=by
 have an:=bc6 hK.inv hK.tm.1 ht hx hK.win
 refine Ce2 Tryz.func36 C C ?_
 refine Ak<|Ge1 (Au (cs:=[_,_,_,_,_,_,_,_,_,_,_,_,_,_,_,_,_,_,_,_,_,_,_,_,_]) C C C) λb1=>Ge1 (Au (cs:=[_,_,_,_,_,_,_]) C C C) λb2=>Ge1 (Aj H2 C) λb3=>Ga C<|Ga C<|Ar<|Ax<|Ak<|Gr (j8.lj H2) ?_
 refine Gc0 (Ac c_ C C<|au0 (k:=k) (v:=v) (KpF.fit hF<|B0 (κ:=κ)<|by repeat (first|exact hH|exact Bf _|apply Be|apply B4|apply Bn)) hK om<|A8 hT Ah) ?_
 refine Gr (E3 C)<|Ar<|W.no C<|Bc<|Ao<|Ak<|Gr (j8.lj H2) ?_
 refine Gl7 s9 ?_
 refine G.e (Ac c_ C C<|do7 (T:=T) (X:=k.S) (xe:=xe) ta2 hF.l hF.p hK.inv hK.win hx ⟨hK.tm.1,ht⟩<|A8 hT Ah) ?_
 rintro _ _ ⟨_,_,⟨ab,M,Y6,ad,ah,rfl,ai,aj,ak,rfl⟩,rfl,rfl⟩
 refine Dq (J:=e8 b3 zk 47::e8 b2 (ez xe) 54::e8 b1 (kx kd wd mo bd nd k v) 47::(Y6++I)) (Cj<|C1 (A:=Y6) (L:=[e8 b3 zk 47,e8 b2 (ez xe) 54,e8 b1 (kx kd wd mo bd nd k v) 47]) (T:=I)) ?_
 show G prog κ _ _ _ _ ([(17,.tuple #[.agg (ky kd wd mo bd k.b.lt k.b.mr v.w.a k.b.ws.length v.w.c nd ab.a (p5 kd wd mo (k.S,[]) xe).1.length ab.c (j5 (p5 kd wd mo (k.S,[]) xe).1) M xe.tm).toArray,.slice ad (p5 kd wd mo (k.S,[]) xe).2.length ah,e7 0]),(16,.agg (ez xe).toArray),(15,.agg (kx kd wd mo bd nd k v).toArray),(12,.bool false),(11,.bool true),(10,.agg (kx kd wd mo bd nd k v).toArray),(6,e7 0),(5,.slice none 0 0),(4,pt b3),(3,pt b2),(2,pt b1),(0,.agg (kx kd wd mo bd nd k v).toArray),(1,.agg (ez xe).toArray)]:Env) (e8 b3 zk 47::e8 b2 (ez xe) 54::e8 b1 (kx kd wd mo bd nd k v) 47::(Y6++I))
 refine Gm C<|Gr (Bj C C)<|Gr (Bj C C)<|Gr (Bj C C)<|Ge1 (Aj H2 C) λb9=>Ge0 (Eff.sq H2) ?_
 refine Ga C<|Ga C<|Ar<|A1 (S4 9 8 7 4)<|Ak<|Gr (j8.lj H2) ?_
 refine G.e (Ac c_ C C<|cc6 (T:=(Y6++T)) (k:=(⟨k.b,(p5 kd wd mo (k.S,[]) xe).1,xe.tm⟩:EnS)) (v:=(⟨v.w,ab,M⟩:KpV)) ta2 ⟨hF.w.fit<|Bu _ _,ai,aj⟩ an.inv.val<|G_ ao dc) ?_
 rintro _ _ ⟨_,_,⟨aa,Y11,rfl,ae,rfl⟩,rfl,rfl⟩
 refine Dq (J:=e8 b9 (ky kd wd mo bd k.b.lt k.b.mr v.w.a k.b.ws.length v.w.c nd ab.a (p5 kd wd mo (k.S,[]) xe).1.length ab.c (j5 (p5 kd wd mo (k.S,[]) xe).1) M xe.tm) 47::e8 b3 zk 47::e8 b2 (ez xe) 54::e8 b1 (kx kd wd mo bd nd k v) 47::(Y11++(Y6++I))) (Cj<|C1 (A:=Y11) (L:=[e8 b9 (ky kd wd mo bd k.b.lt k.b.mr v.w.a k.b.ws.length v.w.c nd ab.a (p5 kd wd mo (k.S,[]) xe).1.length ab.c (j5 (p5 kd wd mo (k.S,[]) xe).1) M xe.tm) 47,e8 b3 zk 47,e8 b2 (ez xe) 54,e8 b1 (kx kd wd mo bd nd k v) 47]) (T:=(Y6++I))) ?_
 show G prog κ _ _ _ _ ([(22,.agg (ky kd wd mo bd k.b.lt k.b.mr aa.w.a k.b.ws.length aa.w.c nd aa.l.a (p5 kd wd mo (k.S,[]) xe).1.length aa.l.c (j5 (p5 kd wd mo (k.S,[]) xe).1) aa.p xe.tm).toArray),(21,.agg (ky kd wd mo bd k.b.lt k.b.mr v.w.a k.b.ws.length v.w.c nd ab.a (p5 kd wd mo (k.S,[]) xe).1.length ab.c (j5 (p5 kd wd mo (k.S,[]) xe).1) M xe.tm).toArray),(9,e7 0),(8,.slice ad (p5 kd wd mo (k.S,[]) xe).2.length ah),(7,pt b9),(4,pt b3)]:Env) (e8 b9 (ky kd wd mo bd k.b.lt k.b.mr v.w.a k.b.ws.length v.w.c nd ab.a (p5 kd wd mo (k.S,[]) xe).1.length ab.c (j5 (p5 kd wd mo (k.S,[]) xe).1) M xe.tm) 47::e8 b3 zk 47::e8 b2 (ez xe) 54::e8 b1 (kx kd wd mo bd nd k v) 47::(Y11++(Y6++I)))
 refine Gm C<|Gm C<|Ge0 (Eff.sq H2) ?_
 exact Ga C<|Ga C<|Ar<|B3<|Cu C H2 C C C mm C (((Y11++Y6)++I)) ta7 ⟨aa,(Y11++Y6),ad,ah,rfl,(by rw [Fr];exact ae),(by rw [Fr];exact Bg ak<|Bu _ _),rfl⟩
end Go.Sl
