/- A part of the proofs of statements of this seat: contracts of functions, and the plain laws that they lean on. No conditions. -/
import Derived.Test.YtoagcglbkeomgaaGreatDoorS27
set_option linter.unusedVariables false
set_option linter.unusedSimpArgs false
set_option linter.unusedSectionVars false
open Go.Proofs.Tryz (prog)
set_option maxHeartbeats 4000000
open List (append_assoc)
namespace Go.Sl
open Go.Proofs
set_option maxRecDepth 4000
variable{κ:Ctx}{I T:List Item}
section
variable {nd kd wd mo bd:Int}{k:EnS}{e:Ev}
theorem feed_evs(h:EnOk nd kd wd mo bd k)(he:FitOk nd e)(ht:k.b.mr<e.tm):(k.b.out bd e).Pairwise (λa b=>a.tm<=b.tm)/\∀x∈k.b.out bd e,FitOk nd x/\k.tm<=x.tm:=by
 obtain ⟨h1,h2⟩:=h.buf.out (e:=e) ht
 refine ⟨h2,λx M=>?_⟩
 have Z:FitOk nd x:=by
  rcases mem_push.1 (mem_upTo.1 M).1 with rfl|h4
  ·exact he
  exact h.fit x h4
 have h4:=h1 x M
 have h5:=h.tm
 have h6:=Z.tm
 exact ⟨Z,by omega⟩
theorem flush_evs(h:EnOk nd kd wd mo bd k):k.b.ws.Pairwise (λa b=>a.tm<=b.tm)/\∀x∈k.b.ws,FitOk nd x/\k.tm<=x.tm:=by
 refine ⟨h.buf.asc,λx M=>?_⟩
 have Z:=h.fit x M
 have h4:=h.buf.rng x M
 have h5:=h.tm
 have h6:=Z.tm
 exact ⟨Z,by omega⟩
theorem out_len(s:BfS)(bd:Int)(e:Ev):(s.out bd e).length<=s.ws.length+1:=by
 unfold BfS.out upTo
 exact Nat.le_trans (List.length_filter_le _ _)<|by rw [push_len];exact Nat.le_refl _
theorem push_wlen(s:BfS)(bd:Int)(e:Ev):(s.push bd e).ws.length<=s.ws.length+1:=by
 unfold BfS.push beyond
 exact Nat.le_trans (List.length_filter_le _ _)<|by rw [push_len];exact Nat.le_refl _
end
theorem Feed_ok{nd kd wd mo bd:Int}{k:EnS}{v:KpV}(hH:Has I T)(hF:KpF κ T nd k v)(hK:EnOk nd kd wd mo bd k)(ar:k.b.ws.length<=4000){xe:Ev}(hx:FitOk nd xe)(ht:k.b.mr<xe.tm)(hT:TabRd κ I 0 tzCells):eu prog κ 17 [.agg (kx kd wd mo bd nd k v).toArray,.agg (ez xe).toArray] I (λr J=>∃(v':KpV) (Y:List Item) (a:Option Addr) (c:Nat),r = .tuple #[.agg (kx kd wd mo bd nd ((k.feed kd wd mo bd xe)) v').toArray,.slice a ((k.fout kd wd mo bd xe)).length c,e7 0]/\KpF κ (Y++T) nd (k.feed kd wd mo bd xe) v'/\Sl κ (Y++T) (.slice a ((k.fout kd wd mo bd xe)).length c) (k.fout kd wd mo bd xe)/\J=Y++I):=by
 have ai:=feed_evs hK hx ht
 refine Ce2 Tryz.func17 C C ?_
 refine Ad<|Ge1 (Bd (cs:=[_,_,_,_,_,_,_,_,_,_,_,_,_,_,_,_,_,_,_,_,_,_,_,_,_]) C C C) λb1=>Ge1 (Bd (cs:=[_,_,_,_,_,_,_]) C C C) λb2=>Ge1 (A4 ty47 C) λb3=>Ga C<|Ga C<|Ac<|Ar<|Ad<|Gr (Runs.lq ty47) ?_
 refine Gc0 (Aj c_ C C<|KValid_ok (k:=k) (v:=v) (KpF.fit hF<|Cm (κ:=κ)<|by repeat (first|exact hH|exact B0 _|apply Bz|apply Cl|apply Ca)) hK om<|Bn hT Ax) ?_
 refine Gr (Cn C)<|Ac<|Dg C<|Aw<|Ah<|Ar<|Ad<|Gl7 ty54 ?_
 refine Gc0 (Aj c_ C C<|CheckE_ok xe) ?_
 refine Ga C<|Ac<|Ad<|Gm C<|Gr (Be C C)<|Ac<|Ap (S5 18 7 4 3 2)<|A7 C (λab=>?_)<|λab=>?_
 ·exact absurd hx.chk ab
 refine Aw<|Ah<|Ar<|Ad<|Gr (Runs.lq ty47) ?_
 refine Gl7 ty54 ?_
 refine Gc0 (Aj c_ C C<|NodeK_ok (nd:=nd) (e:=xe) hx) ?_
 refine Gr (Cn C)<|Ac<|Dg C<|Aw<|Ah<|Ad<|Gf fld47_1 C<|Gl4 ty32 ?_
 refine Gl7 ty54 ?_
 refine G.e (Aj c_ C C<|BPush_ok (T:=T) (bf:=k.b) (e:=xe) (by repeat (first|exact hH|exact B0 _|apply Bz|apply Cl|apply Ca)) hF.w hK.buf om hx.chk ht hx.tm om) ?_
 rintro _ _ ⟨_,_,⟨ad,ao,aq,ap,Y4,rfl,ah,ae,rfl⟩,rfl,rfl⟩
 refine D9 (J:=e8 b3 zk 47::e8 b2 (ez xe) 54::e8 b1 (kx kd wd mo bd nd k v) 47::(Y4++I)) (C4<|Dk (A:=Y4) (L:=[e8 b3 zk 47,e8 b2 (ez xe) 54,e8 b1 (kx kd wd mo bd nd k v) 47]) (T:=I)) ?_
 refine Gm C<|Gr (Ak C C)<|Gr (Ak C C)<|Gr (Ak C C)<|Ge1 (A4 ty32 C) λb9=>Ge0 (C5 ty32) ?_
 refine Ga C<|Ga C<|Ac<|Ap (S5 10 9 8 4 2)<|Ar<|Ad<|Gm C<|Gr (Be C C)<|Ac<|A7 C (λan=>?_)<|λan=>?_
 ·exact absurd an dc
 refine Aw<|Ah<|Ad<|Gr (Runs.lq ty47) ?_
 refine Gl4 ty32 ?_
 refine Gm C<|G.e (Aj c_ C C<|Released_ok (T:=(Y4++T)) (k:=k) (v:=v) (bf:=(k.b.push bd xe)) (evs:=(k.b.out bd xe)) (by repeat (first|exact hH|exact B0 _|apply Bz|apply Cl|apply Ca)) (KpF.fit hF<|Fit.appR _ _) hK ah ae ai.1 ai.2 (by have h9:=push_wlen k.b bd xe;omega) (by have h9:=out_len k.b bd xe;omega)<|Bn hT Ax) ?_
 rintro _ _ ⟨_,_,⟨aa,Y11,ak,aj,rfl,M,Z,rfl⟩,rfl,rfl⟩
 refine D9 (J:=e8 b9 [e7 bd,e7<|(k.b.push bd xe).lt,e7<|(k.b.push bd xe).mr,.slice ad (k.b.push bd xe).ws.length ao] 32::e8 b3 zk 47::e8 b2 (ez xe) 54::e8 b1 (kx kd wd mo bd nd k v) 47::(Y11++(Y4++I))) (C4<|Dk (A:=Y11) (L:=[e8 b9 [e7 bd,e7<|(k.b.push bd xe).lt,e7<|(k.b.push bd xe).mr,.slice ad (k.b.push bd xe).ws.length ao] 32,e8 b3 zk 47,e8 b2 (ez xe) 54,e8 b1 (kx kd wd mo bd nd k v) 47]) (T:=(Y4++I))) ?_
 refine Gr (Ak C C)<|Gr (Ak C C)<|Gr (Ak C C)<|Ge0 (Eff.sq ty47) ?_
 exact Ga C<|Ga C<|Ac<|Ap (S3 6 5 4)<|Az<|Cy C ty47 C C C mm C (((Y11++Y4)++I)) (by rw [append_assoc];exact Bl) ⟨aa,(Y11++Y4),ak,aj,rfl,(by rw [append_assoc];exact M),(by rw [append_assoc];exact Z),rfl⟩
theorem FeedL_ok{nd kd wd mo bd:Int}{k:EnS}{v:KpV}(hF:KpF κ I nd k v)(hK:EnOk nd kd wd mo bd k)(ab:k.b.ws.length<=4000){xe:Ev}(hx:FitOk nd xe)(ht:xe.tm<=k.b.mr)(hT:TabRd κ I 0 tzCells):eu prog κ 17 [.agg (kx kd wd mo bd nd k v).toArray,.agg (ez xe).toArray] I (λr J=>r = .tuple #[.agg zk.toArray,.slice none 0 0,e7 10]/\I=J):=by
 refine Ce2 Tryz.func17 C C ?_
 refine Ad<|Ge1 (Bd (cs:=[_,_,_,_,_,_,_,_,_,_,_,_,_,_,_,_,_,_,_,_,_,_,_,_,_]) C C C) λb1=>Ge1 (Bd (cs:=[_,_,_,_,_,_,_]) C C C) λb2=>Ge1 (A4 ty47 C) λb3=>Ga C<|Ga C<|Ac<|Ar<|Ad<|Gr (Runs.lq ty47) ?_
 refine Gc0 (Aj c_ C C<|KValid_ok (k:=k) (v:=v) (KpF.fit hF Ax) hK om<|Bn hT Ax) ?_
 refine Gr (Cn C)<|Ac<|Dg C<|Aw<|Ah<|Ar<|Ad<|Gl7 ty54 ?_
 refine Gc0 (Aj c_ C C<|CheckE_ok xe) ?_
 refine Ga C<|Ac<|Ad<|Gm C<|Gr (Be C C)<|Ac<|Ap (S5 18 7 4 3 2)<|A7 C (λZ=>?_)<|λZ=>?_
 ·exact absurd hx.chk Z
 refine Aw<|Ah<|Ar<|Ad<|Gr (Runs.lq ty47) ?_
 refine Gl7 ty54 ?_
 refine Gc0 (Aj c_ C C<|NodeK_ok (nd:=nd) (e:=xe) hx) ?_
 refine Gr (Cn C)<|Ac<|Dg C<|Aw<|Ah<|Ad<|Gf fld47_1 C<|Gl4 ty32 ?_
 refine Gl7 ty54 ?_
 refine G.e (Aj c_ C C<|BPushL_ok (bf:=k.b) (e:=xe) (Bu hF.w<|Cm (κ:=κ)<|by repeat (first|exact hH|exact B0 _|apply Bz|apply Cl|apply Ca)) hK.buf om hx.chk ht) ?_
 rintro _ _ ⟨_,_,⟨aa,ad,rfl,rfl⟩,rfl,rfl⟩
 refine Gm C<|Gr (Ak C C)<|Gr (Ak C C)<|Gr (Ak C C)<|Ge1 (A4 ty32 C) λb6=>Ge0 (C5 ty32) ?_
 refine Ga C<|Ga C<|Ac<|Ap (S5 10 9 8 4 2)<|Ar<|Ad<|Gm C<|Gr (Be C C)<|Ac<|A7 C (λM=>?_)<|λM=>?_
 ·refine Ad (Gr (Bq (cells:=zk) ty47 Tryz.underlying47 pl47 C kr)<|Gm C<|Ge0 (Eff.sq ty47) ?_)
  exact Ga C<|Ga C<|Ac<|Az<|Ao<|Cy C ty47 C C C mm C I Ax ⟨rfl,rfl⟩
 exact absurd dc M
theorem Flush_ok{nd kd wd mo bd:Int}{k:EnS}{v:KpV}(hH:Has I T)(hF:KpF κ T nd k v)(hK:EnOk nd kd wd mo bd k)(ap:k.b.ws.length<=4000)(hT:TabRd κ I 0 tzCells):eu prog κ 26 [.agg (kx kd wd mo bd nd k v).toArray] I (λr J=>∃(v':KpV) (Y:List Item) (a:Option Addr) (c:Nat),r = .tuple #[.agg (kx kd wd mo bd nd ((k.flush kd wd mo)) v').toArray,.slice a ((k.xout kd wd mo)).length c,e7 0]/\KpF κ (Y++T) nd (k.flush kd wd mo) v'/\Sl κ (Y++T) (.slice a ((k.xout kd wd mo)).length c) (k.xout kd wd mo)/\J=Y++I):=by
 have ab:=flush_evs hK
 refine Ce1 Tryz.func26 C C ?_
 refine Ad<|Ge1 (Bd (cs:=[_,_,_,_,_,_,_,_,_,_,_,_,_,_,_,_,_,_,_,_,_,_,_,_,_]) C C C) λb1=>Ge1 (A4 ty47 C) λb2=>Ga C<|Ga C<|Ac<|Ar<|Ad<|Gr (Runs.lq ty47) ?_
 refine Gc0 (Aj c_ C C<|KValid_ok (k:=k) (v:=v) (KpF.fit hF<|Cm (κ:=κ)<|by repeat (first|exact hH|exact B0 _|apply Bz|apply Cl|apply Ca)) hK om<|Bn hT Ax) ?_
 refine Gr (Cn C)<|Ac<|Dg C<|Aw<|Ah<|Ad<|Gf fld47_1 C<|Gl4 ty32 ?_
 refine G.e (Aj c_ C C<|BFlush_ok (T:=T) (bf:=k.b) (by repeat (first|exact hH|exact B0 _|apply Bz|apply Cl|apply Ca)) hF.w hK.buf om) ?_
 rintro _ _ ⟨_,_,⟨ad,ak,ao,aq,Y3,rfl,ae,aa,rfl⟩,rfl,rfl⟩
 refine D9 (J:=e8 b2 zk 47::e8 b1 (kx kd wd mo bd nd k v) 47::(Y3++I)) (C4<|Dk (A:=Y3) (L:=[e8 b2 zk 47,e8 b1 (kx kd wd mo bd nd k v) 47]) (T:=I)) ?_
 refine Gm C<|Gr (Ak C C)<|Gr (Ak C C)<|Gr (Ak C C)<|Ge1 (A4 ty32 C) λb8=>Ge0 (C5 ty32) ?_
 refine Ga C<|Ga C<|Ac<|Ap (S5 7 6 5 2 1)<|Ar<|Ad<|Gm C<|Gr (Be C C)<|Ac<|A7 C (λah=>?_)<|λah=>?_
 ·exact absurd ah dc
 refine Aw<|Ah<|Ad<|Gr (Runs.lq ty47) ?_
 refine Gl4 ty32 ?_
 refine Gm C<|G.e (Aj c_ C C<|Released_ok (T:=(Y3++T)) (k:=k) (v:=v) (bf:=k.b.flush) (evs:=k.b.ws) (by repeat (first|exact hH|exact B0 _|apply Bz|apply Cl|apply Ca)) (KpF.fit hF<|Fit.appR _ _) hK ae aa ab.1 ab.2 (by show (0:Nat)<=100000;omega) om<|Bn hT Ax) ?_
 rintro _ _ ⟨_,_,⟨an,Y10,aj,ai,rfl,Z,M,rfl⟩,rfl,rfl⟩
 refine D9 (J:=e8 b8 [e7 bd,e7<|k.b.flush.lt,e7<|k.b.flush.mr,.slice ad k.b.flush.ws.length ak] 32::e8 b2 zk 47::e8 b1 (kx kd wd mo bd nd k v) 47::(Y10++(Y3++I))) (C4<|Dk (A:=Y10) (L:=[e8 b8 [e7 bd,e7<|k.b.flush.lt,e7<|k.b.flush.mr,.slice ad k.b.flush.ws.length ak] 32,e8 b2 zk 47,e8 b1 (kx kd wd mo bd nd k v) 47]) (T:=(Y3++I))) ?_
 refine Gr (Ak C C)<|Gr (Ak C C)<|Gr (Ak C C)<|Ge0 (Eff.sq ty47) ?_
 exact Ga C<|Ga C<|Ac<|Ap (S3 4 3 2)<|Az<|Cy C ty47 C C C mm C (((Y10++Y3)++I)) (by rw [append_assoc];exact Bl) ⟨an,(Y10++Y3),aj,ai,rfl,(by rw [append_assoc];exact Z),(by rw [append_assoc];exact M),rfl⟩
end Go.Sl
namespace Go.Sl
variable {P:Program}{κ:Ctx}{N:Frm}{L:Env}{J:List Item}{d:Option Tmp}{ty:TypeId}{ps:String}{af:Array Edge}{gd:Option (Nat×Bool)}
theorem Runs.max4{x y z u:Operand}(hx:er L x=some (e7 0))(hy:er L y=some (e7 0))(hz:er L z=some (e7 0))(hu:er L u=some (e7 0)){M:Array TypeId} :
  Runs P κ N ⟨d,.call {callee:= .builtin .max,args:= #[x,y,z,u],argTypes:=M},ty,ps,af,gd⟩ L J (e7 0):=
 λa w Z _=>by simp [execOp,resolve,invoke,builtin,Z.eval hx,Z.eval hy,Z.eval hz,Z.eval hu,Builtin.max_,Builtin.max2]
end Go.Sl
namespace Go.Sl
open Go.Proofs
set_option maxRecDepth 4000
variable{c nd:Int}{T:List Item}{ua ub va vb:Value}{es:List Pt}{Z ns:List Int}
theorem gr_nil(h:0<=nd/\nd<=64):GrOk nd ([]:List Pt):=⟨h,List.Pairwise.nil,λe Z=>by cases Z⟩
theorem KOpen_ok{κ:Ctx}{I:List Item}{kd wd mo bd:Int}(T:List Item)(ar:0<=nd/\nd<=64)(hw:checkW kd wd mo=0)(hb:0<=bd/\bd<=1048576)(hT:TabRd κ I 0 tzCells):eu prog κ 14 [e7 nd,e7 bd,.agg #[e7 kd,e7 wd,e7 mo]] I (λr J=>∃(v':KpV) (Y:List Item),r = .tuple #[.agg (kx kd wd mo bd nd ((⟨⟨-1, -1,[]⟩,[],0⟩:EnS)) v').toArray,e7 0]/\KpF κ (Y++T) nd (⟨⟨-1, -1,[]⟩,[],0⟩:EnS) v'/\J=Y++I):=by
 refine Ce3 Tryz.func14 C C ?_
 refine Ad<|Ge1 (Bd (cs:=[_,_,_]) C C C) λb1=>Ge1 (A4 ty47 C) λb2=>Ga C<|Ac<|Ar<|Ad<|Gm C<|Gr (A9 C C)<|Gm C<|Bh (d:=21) C (λa0=>?_)<|λa0=>?_
 ·omega
 refine e9 (Ai C)<|e9 (B2 C C)<|Gr (Au C C)<|Ac<|A7 C (λaz=>?_)<|λaz=>?_
 ·omega
 refine Aw<|Ah<|Ad<|Gm C<|Gc0 (Aj c_ C C<|BOpen_ok hb) ?_
 refine Gm C<|Gr (Ak C C)<|Gr (Ak C C)<|Ge1 (A4 ty32 C) λb3=>Ge0 (C5 ty32) ?_
 refine Ga C<|Ac<|Ap (S5 9 8 6 5 0)<|Ar<|Ad<|Gm C<|Gr (Be C C)<|Ac<|A7 C (λax=>?_)<|λax=>?_
 ·exact absurd ax dc
 refine Aw<|Ah<|Ar<|Ad<|Gl3 ty29 ?_
 refine G.e (Aj c_ C C<|CheckW_ok kd wd mo) ?_
 rintro _ _ ⟨_,_,⟨rfl,rfl⟩,rfl,rfl⟩
 refine Ga C<|Ac<|Ad<|Gm C<|Gr (Be C C)<|Ac<|A7 C (λay=>?_)<|λay=>?_
 ·exact absurd hw ay
 refine Aw<|Ah<|Ad<|Gm C<|Gr (Bq (cells:=[_,_]) ty38 Da pl38 C C)<|Ge1 (A4 ty38 C) λb4=>Ge0 (Cz ty38) ?_
 refine Ac<|Ap (S5 11 8 6 5 0)<|Ad<|Gl2 ty38 ?_
 refine G.e (Aj c_ C C<|RepO_ok (nd:=nd) (es:=([]:List Pt)) (Sl.nil _) (gr_nil ar)<|Bn hT Ax) ?_
 rintro _ _ ⟨_,_,⟨aq,av,au,ap,rfl,rfl⟩,rfl,rfl⟩
 refine Gm C<|Gr (Ak C C)<|Gr (Ak C C)<|Ge1 (A4 ty40 C) λb9=>Ge0 (Df ty40) ?_
 refine Ga C<|Ac<|Ad<|Gl2 ty38 ?_
 refine G.e (Aj c_ C C<|MOpen_ok (nd:=nd) (es:=([]:List Pt)) (Sl.nil _) (gr_nil ar)<|Bn hT Ax) ?_
 rintro _ _ ⟨_,_,⟨ai,an,ak,aj,rfl,rfl⟩,rfl,rfl⟩
 refine Gm C<|Gr (Ak C C)<|Gr (Ak C C)<|Ge1 (A4 ty41 C) λa4=>Ge0 (Df ty41) ?_
 refine Ga C<|Ac<|Ap (S9 14 13 9 12 11 8 6 5 0)<|Ad<|Gl2 ty38 ?_
 refine G.e (Aj c_ C C<|TOpen_ok (nd:=nd) (es:=([]:List Pt)) (Sl.nil _)<|gr_nil ar) ?_
 rintro _ _ ⟨_,_,⟨Z,aa,ab,ao,rfl,rfl⟩,rfl,rfl⟩
 refine Gm C<|Gr (Ak C C)<|Gr (Ak C C)<|Ge1 (A4 ty43 C) λa1=>Ge0 (C5 ty43) ?_
 refine Ga C<|Ac<|Ap (S11 16 15 14 13 9 12 11 8 6 5 0)<|Ad<|Gl2 ty38 ?_
 refine G.e (Aj c_ C C<|QOpen_ok (nd:=nd) (es:=([]:List Pt)) (Sl.nil _) (gr_nil ar)<|Bn hT Ax) ?_
 rintro _ _ ⟨_,_,⟨ad,ae,ah,M,rfl,rfl⟩,rfl,rfl⟩
 refine Gm C<|Gr (Ak C C)<|Gr (Ak C C)<|Ge1 (A4 ty45 C) λa3=>Ge0 (Fb ty45) ?_
 refine Ga C<|Ac<|Ap (S12 18 17 16 15 14 13 9 12 8 6 5 0)<|Ar<|Ad<|Gm C<|Gm C<|Gm C<|Gm C<|Gr (Runs.max4 C C C C)<|Ga C<|Ac<|Ap (S9 9 17 15 13 12 8 6 5 0)<|Ad<|Gm C<|Gr (Be C C)<|Ac<|A7 C (λaw=>?_)<|λaw=>?_
 ·exact absurd aw dc
 refine Aw<|Ah<|Ad<|Gl3 ty29 ?_
 refine Gl4 ty32 ?_
 refine Gm C<|Gr (Bq (cells:=[_,_]) ty35 Fc pl35 C C)<|Gl3 ty40 ?_
 refine Gl3 ty41 ?_
 refine Gl4 ty43 ?_
 refine Gr (Bc (vs:=[_,_,_,_,_]) ty45) ?_
 refine Gr (Bq (cells:=[e7 kd,e7 wd,e7 mo,e7 bd,e7<|(-1),e7<|(-1),.slice none 0 0,e7 nd,.slice none 0 0,e7 nd,.slice aq ([]:List Pt).length av,.slice au (coreN nd ([]:List Pt)).length ap,e7 nd,.slice ai ([]:List Pt).length an,.slice ak (trussG nd ([]:List Pt)).length aj,e7 nd,.slice Z ([]:List Pt).length aa,e7<|triS nd ([]:List Pt) / 3,.slice ab (triL nd ([]:List Pt)).length ao,e7 nd,.slice ad ([]:List Pt).length ae,e7<|wedgeC nd ([]:List Pt),e7<|quadC nd ([]:List Pt),.slice ah (quadL nd ([]:List Pt)).length M,e7 0]) ty47 Tryz.underlying47 pl47 C kr)<|Ge0 (Eff.sq ty47) ?_
 exact Ga C<|Ac<|Ap (S2 7 6)<|Az<|C0 C ty47 C C mm C (([vk 105 aq av ([]:List Pt),vc 3 (.slice au (coreN nd ([]:List Pt)).length ap)<|coreN nd ([]:List Pt),vc 105 (.slice ai ([]:List Pt).length an)<|([]:List Pt),vc 3 (.slice ak (trussG nd ([]:List Pt)).length aj)<|trussG nd ([]:List Pt),vc 105 (.slice Z ([]:List Pt).length aa)<|([]:List Pt),vc 3 (.slice ab (triL nd ([]:List Pt)).length ao)<|triL nd ([]:List Pt),vc 105 (.slice ad ([]:List Pt).length ae)<|([]:List Pt),vc 3 (.slice ah (quadL nd ([]:List Pt)).length M)<|quadL nd ([]:List Pt)]++I)) Bl ⟨⟨⟨none,0⟩,⟨none,0⟩,⟨⟨aq,av⟩,⟨au,ap⟩,⟨ai,an⟩,⟨ak,aj⟩,⟨Z,aa⟩,⟨ab,ao⟩,⟨ad,ae⟩,⟨ah,M⟩⟩⟩,[vk 105 aq av ([]:List Pt),vc 3 (.slice au (coreN nd ([]:List Pt)).length ap)<|coreN nd ([]:List Pt),vc 105 (.slice ai ([]:List Pt).length an)<|([]:List Pt),vc 3 (.slice ak (trussG nd ([]:List Pt)).length aj)<|trussG nd ([]:List Pt),vc 105 (.slice Z ([]:List Pt).length aa)<|([]:List Pt),vc 3 (.slice ab (triL nd ([]:List Pt)).length ao)<|triL nd ([]:List Pt),vc 105 (.slice ad ([]:List Pt).length ae)<|([]:List Pt),vc 3 (.slice ah (quadL nd ([]:List Pt)).length M)<|quadL nd ([]:List Pt)],rfl,⟨Sl.nil _,Sl.nil _,⟨Bi,Bi,Bi,Bi,Bi,Bi,Bi,Bi⟩⟩,rfl⟩
theorem FeedA_ok{κ:Ctx}{I:List Item}{kd wd mo bd:Int}{k:EnS}{v:KpV}(hH:Has I T)(hF:KpF κ T nd k v)(hK:EnOk nd kd wd mo bd k)(Z:k.b.ws.length<=4000){xe:Ev}(hx:FitOk nd xe)(M:TabRd κ I 0 tzCells):eu prog κ 17 [.agg (kx kd wd mo bd nd k v).toArray,.agg (ez xe).toArray] I λr J=>(xe.tm<=k.b.mr/\r = .tuple #[.agg zk.toArray,.slice none 0 0,e7 10]/\I=J)\/(k.b.mr<xe.tm/\∃(v':KpV) (Y:List Item) (a:Option Addr) (c:Nat),r = .tuple #[.agg (kx kd wd mo bd nd ((k.feed kd wd mo bd xe)) v').toArray,.slice a ((k.fout kd wd mo bd xe)).length c,e7 0]/\KpF κ (Y++T) nd (k.feed kd wd mo bd xe) v'/\Sl κ (Y++T) (.slice a ((k.fout kd wd mo bd xe)).length c) (k.fout kd wd mo bd xe)/\J=Y++I):=by
 by_cases ht:xe.tm<=k.b.mr
 ·exact (FeedL_ok (hF.fit hH.fit) hK Z hx ht M).mono λr J h=> .inl ⟨ht,h⟩
 exact (Feed_ok hH hF hK Z hx om M).mono λr J h=> .inr ⟨by omega,h⟩
section
variable {kd wd mo bd:Int}{k k0:EnS}{evs:List Ev}{e:Ev}{i:Nat}
theorem run_next(Z:k=k0.all kd wd mo bd (evs.take i))(hi:i<evs.length)(M:e_ evs i=e):k.next kd wd mo bd e=k0.all kd wd mo bd (evs.take (i+1)):=by
 rw [Cj evs i hi,EnS.all_app,←Z,M];rfl
theorem run_late(Z:k=k0.all kd wd mo bd (evs.take i))(hi:i<evs.length)(he:e_ evs i=e)(M:e.tm<=k.b.mr):k=k0.all kd wd mo bd (evs.take (i+1)):=by
 rw [←run_next Z hi he];unfold EnS.next;rw [if_pos M]
theorem run_feed(Z:k=k0.all kd wd mo bd (evs.take i))(hi:i<evs.length)(M:e_ evs i=e)(ht:k.b.mr<e.tm):k.feed kd wd mo bd e=k0.all kd wd mo bd (evs.take (i+1)):=by
 rw [←run_next Z hi M];unfold EnS.next;rw [if_neg om]
theorem run_cnt(Z:k=k0.all kd wd mo bd (evs.take i))(hi:i<evs.length)(he:e_ evs i=e):BfS.lates bd k0.b (evs.take (i+1))=BfS.lates bd k0.b (evs.take i)+(if e.tm<=k.b.mr then 1 else 0):=by
 have h1:=(all_rel (kd:=kd) (wd:=wd) (mo:=mo) (bd:=bd) (evs.take i) k0).1
 have M:k.b=k0.b.all bd (evs.take i):=by rw [Z,h1];rfl
 rw [Cj evs i hi,BfS.lates_app,he,M];rfl
theorem feed_wlen(k:EnS)(e:Ev):(k.feed kd wd mo bd e).b.ws.length<=k.b.ws.length+1:=push_wlen k.b bd e
end
theorem lates_lenB(bd:Int):∀(l:List Ev) (s:BfS),BfS.lates bd s l<=l.length
 |[],s=>Nat.le_refl _
 |e::l,s=>by
  have h:=lates_lenB bd l (s.next bd e)
  show (if e.tm<=s.mr then 1 else 0)+BfS.lates bd (s.next bd e) l<=l.length+1
  split<;>omega
theorem lates_len(bd:Int)(s:BfS)(l:List Ev):BfS.lates bd s l<=l.length:=lates_lenB bd l s
theorem KRun_ok{κ:Ctx}{I:List Item}{kd wd mo bd:Int}{evs:List Ev}{ea:Option Addr}{ec:Nat}(hH:Has I T)(he:Sl κ I (.slice ea evs.length ec) evs)(aj:0<=nd/\nd<=64)(hw:checkW kd wd mo=0)(hb:0<=bd/\bd<=1048576)(ao:∀e∈evs,FitOk nd e)(a0:evs.length<=4000)(hT:TabRd κ I 0 tzCells):eu prog κ 30 [e7 nd,e7 bd,.agg #[e7 kd,e7 wd,e7 mo],.slice ea evs.length ec] I (λr J=>∃(v':KpV) (Y:List Item),r = .tuple #[.agg (kx kd wd mo bd nd ((EnS.run kd wd mo bd evs)) v').toArray,e7 (((BfS.lates bd ⟨-1, -1,[]⟩ evs):Nat):Int),e7 0]/\KpF κ (Y++T) nd (EnS.run kd wd mo bd evs) v'/\J=Y++I):=by
 refine Ce4 Tryz.func30 C C ?_
 refine Ad<|Ge1 (Bd (cs:=[_,_,_]) C C C) λb1=>Ge1 (A4 ty47 C) λb2=>Ga C<|Ga C<|Ac<|Ad<|Gm C<|Gm C<|Gl3 ty29 ?_
 refine G.e (Aj c_ C C<|KOpen_ok (nd:=nd) (bd:=bd) T aj hw hb<|Bn hT Ax) ?_
 rintro _ _ ⟨_,_,⟨au,Y4,rfl,ae,rfl⟩,rfl,rfl⟩
 refine D9 (J:=e8 b2 zk 47::e8 b1 [e7 kd,e7 wd,e7 mo] 29::(Y4++I)) (C4<|Dk (A:=Y4) (L:=[e8 b2 zk 47,e8 b1 [e7 kd,e7 wd,e7 mo] 29]) (T:=I)) ?_
 refine Gm C<|Gr (Ak C C)<|Gr (Ak C C)<|Ge1 (A4 ty47 C) λb5=>Ge0 (Eff.sq ty47) ?_
 refine Ga C<|Ac<|Ap (S4 12 11 8 3)<|Ar<|Ad<|Gm C<|Gr (Be C C)<|Ac<|A7 C (λad=>?_)<|λad=>?_
 ·exact absurd ad dc
 refine Aw<|Ah<|Ad<|Ga C<|Ac<|Ar<|Ad<|Gm C<|Gr (Bk Al C)<|Gm C<|Ac<|A5<|B1 (σ:=Nat×EnS×KpV×(List Item)×Nat) (λs=>([(8,pt b2),(11,pt b5),(13,e7 ((s.2.2.2.2:Nat):Int)),(30,.slice ea evs.length ec),(31,e7 ((evs.length:Nat):Int)),(32,e7 ((s.1:Nat):Int))]:Env)) (λs=>e8 b5 (kx kd wd mo bd nd s.2.1 s.2.2.1) 47::e8 b2 zk 47::e8 b1 [e7 kd,e7 wd,e7 mo] 29::(s.2.2.2.1++I)) (λs=>(s.1<=evs.length)/\(s.2.1=(⟨⟨-1, -1,[]⟩,[],0⟩:EnS).all kd wd mo bd (evs.take s.1))/\(s.2.2.2.2=BfS.lates bd ⟨-1, -1,[]⟩ (evs.take s.1))/\(EnOk nd kd wd mo bd s.2.1)/\(KpF κ (s.2.2.2.1++T) nd s.2.1 s.2.2.1)/\(s.2.1.b.ws.length<=s.1)) (λs=>evs.length - s.1) (0,(⟨⟨-1, -1,[]⟩,[],0⟩:EnS),au,Y4,0) ⟨om,rfl,rfl,(EnOk.open_ aj hw hb),ae,(by show (0:Nat)<=0;omega)⟩ (cx2<|Aa Cd<|cx2<|Aa Cd Bp) Bl ?_
 rintro ⟨i,k,v,Y,n⟩ hp
 dsimp only at hp ⊢
 obtain ⟨hi,hk,hn,hK,hF,a5⟩:=hp
 have a4:n<=i:=by rw [hn];exact Nat.le_trans (lates_len _ _ _) (by rw [List.length_take];omega)
 refine Ad<|Gr (A9 C C)<|Ac<|Ar<|A7 C (λap=>?_)<|λap=>?_
 ·refine Aw (Ah<|Ar<|A5<|Ad<|Gr (A3 (α:=Ev) (xs:=evs) Al ty54 C C (A8 he) om om)<|Gr (Bv (α:=Ev) (xs:=evs) ty54 C (A8 he) om om) ?_)
  have aa:=ao _ (B7 (xs:=evs) (i:=(i:Int)) om om)
  generalize hxe:e_ evs i=xe at aa ⊢
  refine Ge1 (A4 ty54 C) λb6=>Ge0 (E8 ty54) ?_
  refine Ac<|Ad<|Gr (Runs.lq ty47) ?_
  refine Gl7 ty54 ?_
  refine G.e (Aj c_ C C<|FeedA_ok (T:=(Y++T)) (k:=k) (v:=v) (by repeat (first|exact hH|exact B0 _|apply Bz|apply Cl|apply Ca)) hF hK om aa<|Bn hT Ax) ?_
  rintro _ _ ⟨_,_,(⟨Z,rfl,rfl⟩|⟨Z,ar,Y8,a3,ax,rfl,an,ay,rfl⟩),rfl,rfl⟩
  ·skip
   refine Gm C<|Gr (Ak C C)<|Gr (Ak C C)<|Gr (Ak C C)<|Ge1 (A4 ty47 C) λa1=>Ge0 (Eff.sq ty47) ?_
   refine Ga C<|Ga C<|Ac<|Ap (S8 18 16 8 11 13 30 31 32)<|Ad<|Gm C<|Ac<|A5<|Ad<|Gr (Br C C)<|Ga C<|Ac<|A7 C (λM=>?_)<|λM=>?_
   ·exact absurd M dc
   refine Ad<|Gr (Br C C)<|Ga C<|Ac<|A7 C (λai=>?_)<|λai=>?_
   ·exact Ay<|Gm C<|Gr (Rad C C)<|Ga C<|Bj<|Am<|Am<|Ah<|Ap (S6 13 8 11 30 31 32)<|Ay<|Gr (Rad C C)<|Gm C<|Bj<|Cb ((i+1),(k),(v),(Y),(n+1))<|by dsimp only;exact ⟨om,(run_late hk om hxe Z),(by rw [run_cnt (k0:=(⟨⟨-1, -1,[]⟩,[],0⟩:EnS)) hk om hxe,if_pos Z,hn]),hK,hF,om⟩
   exact absurd dc ai
  refine D9 (J:=e8 b6 (ez xe) 54::e8 b5 (kx kd wd mo bd nd k v) 47::e8 b2 zk 47::e8 b1 [e7 kd,e7 wd,e7 mo] 29::(Y8++(Y++I))) (C4<|Dk (A:=Y8) (L:=[e8 b6 (ez xe) 54,e8 b5 (kx kd wd mo bd nd k v) 47,e8 b2 zk 47,e8 b1 [e7 kd,e7 wd,e7 mo] 29]) (T:=(Y++I))) ?_
  refine Gm C<|Gr (Ak C C)<|Gr (Ak C C)<|Gr (Ak C C)<|Ge1 (A4 ty47 C) λaz=>Ge0 (Eff.sq ty47) ?_
  refine Ga C<|Ga C<|Ac<|Ap (S8 18 16 8 11 13 30 31 32)<|Ad<|Gm C<|Ac<|A5<|Ad<|Gr (Br C C)<|Ga C<|Ac<|A7 C (λM=>?_)<|λM=>?_
  ·refine Ay (Gr (Runs.lq ty47) ?_)
   refine Ge0 (Eff.sq ty47) ?_
   exact Bj<|Am<|Am<|Ah<|Ay<|Gr (Rad C C)<|Gm C<|Bj<|Cb ((i+1),((k.feed kd wd mo bd xe)),(ar),((Y8++Y)),(n)) (by dsimp only;exact ⟨om,(run_feed hk om hxe Z),(by rw [run_cnt (k0:=(⟨⟨-1, -1,[]⟩,[],0⟩:EnS)) hk om hxe,if_neg om,hn];rfl),(hK.feed aa Z),(by rw [append_assoc];exact an),(by have h9:=feed_wlen (kd:=kd) (wd:=wd) (mo:=mo) (bd:=bd) k xe;omega)⟩) (hI:=by (try dsimp only);exact (by rw [append_assoc];exact Bl))
  exact absurd dc M
 refine Bt<|Aq<|Aq<|Bb<|Ah<|Ad<|Gr (Runs.lq ty47) ?_
 refine G.e (Aj c_ C C<|Flush_ok (T:=(Y++T)) (k:=k) (v:=v) (by repeat (first|exact hH|exact B0 _|apply Bz|apply Cl|apply Ca)) hF hK om<|Bn hT Ax) ?_
 rintro _ _ ⟨_,_,⟨ah,Y14,av,aw,rfl,ab,aq,rfl⟩,rfl,rfl⟩
 refine D9 (J:=e8 b5 (kx kd wd mo bd nd k v) 47::e8 b2 zk 47::e8 b1 [e7 kd,e7 wd,e7 mo] 29::(Y14++(Y++I))) (C4<|Dk (A:=Y14) (L:=[e8 b5 (kx kd wd mo bd nd k v) 47,e8 b2 zk 47,e8 b1 [e7 kd,e7 wd,e7 mo] 29]) (T:=(Y++I))) ?_
 refine Gm C<|Gr (Ak C C)<|Gr (Ak C C)<|Gr (Ak C C)<|Ge0 (Eff.sq ty47) ?_
 refine Ga C<|Ac<|Ap (S4 12 8 11 13)<|Ar<|Ad<|Gm C<|Gr (Be C C)<|Ac<|A7 C (λak=>?_)<|λak=>?_
 ·exact absurd ak dc
 refine Aw<|Ah<|Ad<|Gr (Runs.lq ty47) ?_
 refine Gm C<|Ge0 (Eff.sq ty47) ?_
 refine Ga C<|Ga C<|Ac<|Az ?_
 rw [show evs.take i=evs from List.take_of_length_le om] at hk hn
 have hR:(EnS.run kd wd mo bd evs)=k.flush kd wd mo:=by rw [hk];rfl
 rw [hR,←hn]
 exact Cy C ty47 C C C mm C (((Y14++Y)++I)) (by rw [append_assoc];exact Bl) ⟨ah,(Y14++Y),rfl,(by rw [append_assoc];exact ab),rfl⟩
variable {κ:Ctx}{I:List Item}
structure Wn3 where
 k:Int
 w:Int
 m:Int
deriving DecidableEq,Inhabited
instance:Enc Wn3:=⟨λa=>[e7 a.k,e7 a.w,e7 a.m],3,by omega,λ_=>rfl,λa x h=>by
 simp only [List.mem_cons,List.not_mem_nil,or_false] at h
 rcases h with rfl|rfl|rfl<;>rfl⟩
theorem eqt29:EqT prog 29 Wn3:=EqT.flat (λp:Wn3=>[p.k,p.w,p.m]) (λ_=>rfl) (λx y h=>by cases x;cases y;simpa using h) (n:=3) (λ_=>rfl) kr kr kr kr kr
theorem SameB_ok{bd lt mr:Int}{xs:List Ev}(hl:Sl κ I va xs)(hm:Sl κ I vb xs):eu prog κ 74 [.agg #[e7 bd,e7 lt,e7 mr,va],.agg #[e7 bd,e7 lt,e7 mr,vb]] I (λr J=>r = .bool true/\I=J):=by
 refine Ce2 Tryz.func74 C C ?_
 refine Ad<|Ge1 (Bd (cs:=[_,_,_,_]) C C C) λb1=>Ge1 (Bd (cs:=[_,_,_,_]) C C C) λb2=>Ga C<|Ac<|Ad<|Gf fld32_0 C<|Gl ef ?_
 refine Gf fld32_0 C<|Gl ef ?_
 refine Gr (Br C C)<|Gm C<|Bh (d:=10) C (λZ=>?_)<|λZ=>?_
 ·refine e9 (Ab fld32_1 C) (e9 (A0 ef) ?_)
  refine e9 (Ab fld32_1 C)<|e9 (A0 ef) ?_
  refine e9 (Br C C)<|Gr (Av C C)<|Gm C<|Bh (d:=17) C (λaa=>?_)<|λaa=>?_
  ·refine e9 (Ab fld32_2 C) (e9 (A0 ef) ?_)
   refine e9 (Ab fld32_2 C)<|e9 (A0 ef) ?_
   refine e9 (Br C C)<|Gr (Av C C)<|Gm C<|Bh (d:=24) C (λM=>?_)<|λM=>?_
   ·refine e9 (Ab fld32_3 C) (e9 (A0 ty30) ?_)
    refine e9 (Ab fld32_3 C)<|e9 (A0 ty30) ?_
    refine Dx (Cq C C C) (Aj c_ C C<|Same4_ok (A8 hl)<|A8 hm) ?_
    rintro _ _ ⟨_,_,⟨rfl,rfl⟩,rfl,rfl⟩
    exact Gr (Av C C)<|Ga C<|Ac<|Ap (S1 4)<|Az<|A1 C C I Ax ⟨by first|rfl|(rw [decide_eq_true rfl])|(rw [decide_eq_true ⟨rfl,rfl⟩])|(simp;done),rfl⟩
   exact absurd rfl M
  exact absurd rfl aa
 exact absurd rfl Z
theorem Same11_ok(hl:Sl κ I va es)(hm:Sl κ I ua ns)(aa:Sl κ I vb es)(M:Sl κ I ub ns):eu prog κ 75 [.agg #[e7 nd,va,ua],.agg #[e7 nd,vb,ub]] I (λr J=>r = .bool true/\I=J):=by
 refine Ce2 Tryz.func75 C C ?_
 refine Ad<|Ge1 (Bd (cs:=[_,_,_]) C C C) λb1=>Ge1 (Bd (cs:=[_,_,_]) C C C) λb2=>Ga C<|Ac<|Ad<|Gf fld40_0 C<|Gl2 ty38 ?_
 refine Gf fld40_0 C<|Gl2 ty38 ?_
 refine Gc0 (Aj c_ C C<|Same03_ok (A8 hl)<|A8 aa) ?_
 refine Gm C<|Bh (d:=10) C (λZ=>?_)<|λZ=>?_
 ·refine e9 (Ab fld40_1 C) (e9 (A0 ty22) ?_)
  refine e9 (Ab fld40_1 C)<|e9 (A0 ty22) ?_
  refine Dx (Cq C C C) (Aj c_ C C<|Same_ok (A8 hm)<|A8 M) ?_
  rintro _ _ ⟨_,_,⟨rfl,rfl⟩,rfl,rfl⟩
  exact Gr (Av C C)<|Ga C<|Ac<|Ap (S1 4)<|Az<|A1 C C I Ax ⟨by first|rfl|(rw [decide_eq_true rfl])|(rw [decide_eq_true ⟨rfl,rfl⟩])|(simp;done),rfl⟩
 exact absurd ⟨rfl,rfl⟩ Z
theorem Same13_ok(hl:Sl κ I va es)(hm:Sl κ I ua ns)(aa:Sl κ I vb es)(M:Sl κ I ub ns):eu prog κ 76 [.agg #[e7 nd,va,ua],.agg #[e7 nd,vb,ub]] I (λr J=>r = .bool true/\I=J):=by
 refine Ce2 Tryz.func76 C C ?_
 refine Ad<|Ge1 (Bd (cs:=[_,_,_]) C C C) λb1=>Ge1 (Bd (cs:=[_,_,_]) C C C) λb2=>Ga C<|Ac<|Ad<|Gf fld41_0 C<|Gl2 ty38 ?_
 refine Gf fld41_0 C<|Gl2 ty38 ?_
 refine Gc0 (Aj c_ C C<|Same03_ok (A8 hl)<|A8 aa) ?_
 refine Gm C<|Bh (d:=10) C (λZ=>?_)<|λZ=>?_
 ·refine e9 (Ab fld41_1 C) (e9 (A0 ty22) ?_)
  refine e9 (Ab fld41_1 C)<|e9 (A0 ty22) ?_
  refine Dx (Cq C C C) (Aj c_ C C<|Same_ok (A8 hm)<|A8 M) ?_
  rintro _ _ ⟨_,_,⟨rfl,rfl⟩,rfl,rfl⟩
  exact Gr (Av C C)<|Ga C<|Ac<|Ap (S1 4)<|Az<|A1 C C I Ax ⟨by first|rfl|(rw [decide_eq_true rfl])|(rw [decide_eq_true ⟨rfl,rfl⟩])|(simp;done),rfl⟩
 exact absurd ⟨rfl,rfl⟩ Z
theorem Same29_ok(hl:Sl κ I va es)(hm:Sl κ I ua Z)(ah:Sl κ I vb es)(M:Sl κ I ub Z):eu prog κ 77 [.agg #[e7 nd,va,e7 c,ua],.agg #[e7 nd,vb,e7 c,ub]] I (λr J=>r = .bool true/\I=J):=by
 refine B5 hm.le λaj=>?_
 refine Ce2 Tryz.func77 C C ?_
 refine Ad<|Ge1 (Bd (cs:=[_,_,_,_]) C C C) λb1=>Ge1 (Bd (cs:=[_,_,_,_]) C C C) λb2=>Ga C<|Ac<|Ar<|Ad<|Gf fld43_0 C<|Gl2 ty38 ?_
 refine Gf fld43_0 C<|Gl2 ty38 ?_
 refine Gc0 (Aj c_ C C<|Same03_ok (A8 hl)<|A8 ah) ?_
 refine Gr (Dc C)<|Gm C<|Bh (d:=12) C (λab=>?_)<|λab=>?_
 ·exact absurd ⟨rfl,rfl⟩ ab
 refine e9 (Ab fld43_1 C)<|e9 (A0 ef) ?_
 refine e9 (Ab fld43_1 C)<|e9 (A0 ef) ?_
 refine e9 (Be C C)<|Gr (Au C C)<|Gm C<|Bh (d:=19) C (λae=>?_)<|λae=>?_
 ·exact absurd rfl ae
 refine e9 (Ab fld43_2 C)<|e9 (A0 ty22) ?_
 refine e9 (Bw (α:=Int) (xs:=Z) Af C<|A8 hm)<|e9 (Ab fld43_2 C)<|e9 (A0 ty22) ?_
 refine e9 (Bw (α:=Int) (xs:=Z) Af C<|A8 M)<|e9 (Be C C)<|Gr (Au C C)<|Ac<|Ap (S3 27 3 2)<|A7 C (λaa=>?_)<|λaa=>?_
 ·exact absurd rfl aa
 refine Aw<|Ah<|Ar<|Ad<|Ga C<|Ac<|A5<|B1 (σ:=Nat) (λs=>([(2,pt b1),(3,pt b2),(5,e7 ((s:Nat):Int))]:Env)) (λs=>e8 b2 [e7 nd,vb,e7 c,ub] 43::e8 b1 [e7 nd,va,e7 c,ua] 43::I) (λs=>(s<=Z.length)) (λs=>Z.length - s) 0 (show ((0:Nat)<=Z.length) from om) (cx2<|Aa Cd Bp) Bg ?_
 rintro k hp
 have hk:=hp
 refine Ar<|Ad<|Gm C<|Gf fld43_2 C<|Gl ty22 ?_
 refine Gr (Bw (α:=Int) (xs:=Z) Af C<|A8 hm)<|Gr (A9 C C)<|Ac<|A7 C (λai=>?_)<|λai=>?_
 ·refine Aw (Ah<|Ar<|A5<|Ar<|Bs mixed<|El 11<|Dr 0 C (Ab fld43_2 C)<|Dr 1 C (A0 ty22) ?_)
  refine Dr 2 C (Ai C)<|Dr 3 C (A3 (α:=Int) (xs:=Z) Af ef C C (A8 hm) om om)<|Dr 4 C (Bx (xs:=Z) ef C (A8 hm) om om)<|Dr 5 C (Ab fld43_2 C)<|Dr 6 C (A0 ty22) ?_
  refine Dr 7 C (Ai C)<|Dr 8 C (A3 (α:=Int) (xs:=Z) Af ef C C (A8 M) om om)<|Dr 9 C (Bx (xs:=Z) ef C (A8 M) om om)<|Dr 10 C (Be C C)<|Dz<|Ah<|Ap (S4 45 2 3 5)<|A7 C (λad=>?_)<|λad=>?_
  ·exact absurd rfl ad
  exact Aw<|Am<|Ah<|Ay<|Gm C<|Gr (Rad C C)<|Ga C<|Bj<|Cb ((k+1)) om
 exact Bt<|Aq<|Aq<|Bb<|Ah<|Ad<|Ga C<|Ac<|Az<|A1 C C I Ax ⟨by first|rfl|(rw [decide_eq_true rfl])|(rw [decide_eq_true ⟨rfl,rfl⟩])|(simp;done),rfl⟩
theorem Same30_ok{w:Int}(hl:Sl κ I va es)(hm:Sl κ I ua Z)(aj:Sl κ I vb es)(M:Sl κ I ub Z):eu prog κ 78 [.agg #[e7 nd,va,e7 w,e7 c,ua],.agg #[e7 nd,vb,e7 w,e7 c,ub]] I (λr J=>r = .bool true/\I=J):=by
 refine B5 hm.le λak=>?_
 refine Ce2 Tryz.func78 C C ?_
 refine Ad<|Ge1 (Bd (cs:=[_,_,_,_,_]) C C C) λb1=>Ge1 (Bd (cs:=[_,_,_,_,_]) C C C) λb2=>Ga C<|Ac<|Ar<|Ad<|Gf fld45_0 C<|Gl2 ty38 ?_
 refine Gf fld45_0 C<|Gl2 ty38 ?_
 refine Gc0 (Aj c_ C C<|Same03_ok (A8 hl)<|A8 aj) ?_
 refine Gr (Dc C)<|Gm C<|Bh (d:=12) C (λaa=>?_)<|λaa=>?_
 ·exact absurd ⟨rfl,rfl⟩ aa
 refine e9 (Ab fld45_1 C)<|e9 (A0 ef) ?_
 refine e9 (Ab fld45_1 C)<|e9 (A0 ef) ?_
 refine e9 (Be C C)<|Gr (Au C C)<|Gm C<|Bh (d:=19) C (λae=>?_)<|λae=>?_
 ·exact absurd rfl ae
 refine e9 (Ab fld45_2 C)<|e9 (A0 ef) ?_
 refine e9 (Ab fld45_2 C)<|e9 (A0 ef) ?_
 refine e9 (Be C C)<|Gr (Au C C)<|Gm C<|Bh (d:=26) C (λad=>?_)<|λad=>?_
 ·exact absurd rfl ad
 refine e9 (Ab fld45_3 C)<|e9 (A0 ty22) ?_
 refine e9 (Bw (α:=Int) (xs:=Z) Af C<|A8 hm)<|e9 (Ab fld45_3 C)<|e9 (A0 ty22) ?_
 refine e9 (Bw (α:=Int) (xs:=Z) Af C<|A8 M)<|e9 (Be C C)<|Gr (Au C C)<|Ac<|Ap (S3 34 3 2)<|A7 C (λab=>?_)<|λab=>?_
 ·exact absurd rfl ab
 refine Aw<|Ah<|Ar<|Ad<|Ga C<|Ac<|A5<|B1 (σ:=Nat) (λs=>([(2,pt b1),(3,pt b2),(5,e7 ((s:Nat):Int))]:Env)) (λs=>e8 b2 [e7 nd,vb,e7 w,e7 c,ub] 45::e8 b1 [e7 nd,va,e7 w,e7 c,ua] 45::I) (λs=>(s<=Z.length)) (λs=>Z.length - s) 0 (show ((0:Nat)<=Z.length) from om) (cx2<|Aa Cd Bp) Bg ?_
 rintro k hp
 have hk:=hp
 refine Ar<|Ad<|Gm C<|Gf fld45_3 C<|Gl ty22 ?_
 refine Gr (Bw (α:=Int) (xs:=Z) Af C<|A8 hm)<|Gr (A9 C C)<|Ac<|A7 C (λai=>?_)<|λai=>?_
 ·refine Aw (Ah<|Ar<|A5<|Ar<|Bs mixed<|El 11<|Dr 0 C (Ab fld45_3 C)<|Dr 1 C (A0 ty22) ?_)
  refine Dr 2 C (Ai C)<|Dr 3 C (A3 (α:=Int) (xs:=Z) Af ef C C (A8 hm) om om)<|Dr 4 C (Bx (xs:=Z) ef C (A8 hm) om om)<|Dr 5 C (Ab fld45_3 C)<|Dr 6 C (A0 ty22) ?_
  refine Dr 7 C (Ai C)<|Dr 8 C (A3 (α:=Int) (xs:=Z) Af ef C C (A8 M) om om)<|Dr 9 C (Bx (xs:=Z) ef C (A8 M) om om)<|Dr 10 C (Be C C)<|Dz<|Ah<|Ap (S4 52 2 3 5)<|A7 C (λah=>?_)<|λah=>?_
  ·exact absurd rfl ah
  exact Aw<|Am<|Ah<|Ay<|Gm C<|Gr (Rad C C)<|Ga C<|Bj<|Cb ((k+1)) om
 exact Bt<|Aq<|Aq<|Bb<|Ah<|Ad<|Ga C<|Ac<|Az<|A1 C C I Ax ⟨by first|rfl|(rw [decide_eq_true rfl])|(rw [decide_eq_true ⟨rfl,rfl⟩])|(simp;done),rfl⟩
theorem SameK_base{kd wd mo bd:Int}{k:EnS}{v M:KpV}(hF:KpF κ I nd k v)(Z:KpF κ I nd k M):eu prog κ 33 [.agg (kx kd wd mo bd nd k v).toArray,.agg (kx kd wd mo bd nd k M).toArray] I (λr J=>r = .bool true/\I=J):=by
 refine Ce2 Tryz.func33 C C ?_
 refine Ad<|Ge1 (Bd (cs:=[_,_,_,_,_,_,_,_,_,_,_,_,_,_,_,_,_,_,_,_,_,_,_,_,_]) C C C) λb1=>Ge1 (Bd (cs:=[_,_,_,_,_,_,_,_,_,_,_,_,_,_,_,_,_,_,_,_,_,_,_,_,_]) C C C) λb2=>Ga C<|Ac<|Ad<|Gf fld47_0 C<|Gl3 ty29 ?_
 refine Gf fld47_0 C<|Gl3 ty29 ?_
 refine Gr (Runs.eqlT (α:=Wn3) (a:=(⟨kd,wd,mo⟩:Wn3)) (b:=(⟨kd,wd,mo⟩:Wn3)) eqt29 C C)<|Gm C<|Bh (d:=10) C (λaa=>?_)<|λaa=>?_
 ·refine e9 (Ab fld47_1 C) (e9 (Bc (vs:=[_,_,_,_]) ty32) ?_)
  refine e9 (Ab fld47_1 C)<|e9 (Bc (vs:=[_,_,_,_]) ty32) ?_
  refine Dx (Cq C C C) (Aj c_ C C<|SameB_ok (Bu hF.w<|Cm (κ:=κ)<|by repeat (first|exact hH|exact B0 _|apply Bz|apply Cl|apply Ca))<|Bu Z.w<|Cm (κ:=κ)<|by repeat (first|exact hH|exact B0 _|apply Bz|apply Cl|apply Ca)) ?_
  rintro _ _ ⟨_,_,⟨rfl,rfl⟩,rfl,rfl⟩
  refine Gr (Av C C)<|Gm C<|e9 (Ab fld47_2 C)<|e9 (Bc (vs:=[_,_]) ty35) ?_
  refine e9 (Ab fld47_2 C)<|e9 (Bc (vs:=[_,_]) ty35) ?_
  refine Dx (Cq C C C) (Aj c_ C C<|Same5_ok (Bu hF.l<|Cm (κ:=κ)<|by repeat (first|exact hH|exact B0 _|apply Bz|apply Cl|apply Ca))<|Bu Z.l<|Cm (κ:=κ)<|by repeat (first|exact hH|exact B0 _|apply Bz|apply Cl|apply Ca)) ?_
  rintro _ _ ⟨_,_,⟨rfl,rfl⟩,rfl,rfl⟩
  refine Gr (Av C C)<|Gm C<|Bh (d:=24) C (λab=>?_)<|λab=>?_
  ·refine e9 (Ab fld47_3 C) (e9 (Bc (vs:=[_,_,_]) ty40) ?_)
   refine e9 (Ab fld47_3 C)<|e9 (Bc (vs:=[_,_,_]) ty40) ?_
   refine Dx (Cq C C C) (Aj c_ C C<|Same11_ok (Bu hF.p.e1<|Cm (κ:=κ)<|by repeat (first|exact hH|exact B0 _|apply Bz|apply Cl|apply Ca)) (Bu hF.p.n1<|Cm (κ:=κ)<|by repeat (first|exact hH|exact B0 _|apply Bz|apply Cl|apply Ca)) (Bu Z.p.e1<|Cm (κ:=κ)<|by repeat (first|exact hH|exact B0 _|apply Bz|apply Cl|apply Ca))<|Bu Z.p.n1<|Cm (κ:=κ)<|by repeat (first|exact hH|exact B0 _|apply Bz|apply Cl|apply Ca)) ?_
   rintro _ _ ⟨_,_,⟨rfl,rfl⟩,rfl,rfl⟩
   refine Gr (Av C C)<|Gm C<|e9 (Ab fld47_4 C)<|e9 (Bc (vs:=[_,_,_]) ty41) ?_
   refine e9 (Ab fld47_4 C)<|e9 (Bc (vs:=[_,_,_]) ty41) ?_
   refine Dx (Cq C C C) (Aj c_ C C<|Same13_ok (Bu hF.p.e2<|Cm (κ:=κ)<|by repeat (first|exact hH|exact B0 _|apply Bz|apply Cl|apply Ca)) (Bu hF.p.n2<|Cm (κ:=κ)<|by repeat (first|exact hH|exact B0 _|apply Bz|apply Cl|apply Ca)) (Bu Z.p.e2<|Cm (κ:=κ)<|by repeat (first|exact hH|exact B0 _|apply Bz|apply Cl|apply Ca))<|Bu Z.p.n2<|Cm (κ:=κ)<|by repeat (first|exact hH|exact B0 _|apply Bz|apply Cl|apply Ca)) ?_
   rintro _ _ ⟨_,_,⟨rfl,rfl⟩,rfl,rfl⟩
   refine Gr (Av C C)<|Gm C<|e9 (Ab fld47_5 C)<|e9 (Bc (vs:=[_,_,_,_]) ty43) ?_
   refine e9 (Ab fld47_5 C)<|e9 (Bc (vs:=[_,_,_,_]) ty43) ?_
   refine Dx (Cq C C C) (Aj c_ C C<|Same29_ok (Bu hF.p.e3<|Cm (κ:=κ)<|by repeat (first|exact hH|exact B0 _|apply Bz|apply Cl|apply Ca)) (Bu hF.p.n3<|Cm (κ:=κ)<|by repeat (first|exact hH|exact B0 _|apply Bz|apply Cl|apply Ca)) (Bu Z.p.e3<|Cm (κ:=κ)<|by repeat (first|exact hH|exact B0 _|apply Bz|apply Cl|apply Ca))<|Bu Z.p.n3<|Cm (κ:=κ)<|by repeat (first|exact hH|exact B0 _|apply Bz|apply Cl|apply Ca)) ?_
   rintro _ _ ⟨_,_,⟨rfl,rfl⟩,rfl,rfl⟩
   refine Gr (Av C C)<|Gm C<|e9 (Ab fld47_6 C)<|e9 (Bc (vs:=[_,_,_,_,_]) ty45) ?_
   refine e9 (Ab fld47_6 C)<|e9 (Bc (vs:=[_,_,_,_,_]) ty45) ?_
   refine Dx (Cq C C C) (Aj c_ C C<|Same30_ok (Bu hF.p.e4<|Cm (κ:=κ)<|by repeat (first|exact hH|exact B0 _|apply Bz|apply Cl|apply Ca)) (Bu hF.p.n4<|Cm (κ:=κ)<|by repeat (first|exact hH|exact B0 _|apply Bz|apply Cl|apply Ca)) (Bu Z.p.e4<|Cm (κ:=κ)<|by repeat (first|exact hH|exact B0 _|apply Bz|apply Cl|apply Ca))<|Bu Z.p.n4<|Cm (κ:=κ)<|by repeat (first|exact hH|exact B0 _|apply Bz|apply Cl|apply Ca)) ?_
   rintro _ _ ⟨_,_,⟨rfl,rfl⟩,rfl,rfl⟩
   refine Gr (Av C C)<|Gm C<|e9 (Ab fld47_7 C)<|e9 (A0 ef) ?_
   refine e9 (Ab fld47_7 C)<|e9 (A0 ef) ?_
   exact e9 (Br C C)<|Gr (Av C C)<|Ga C<|Ac<|Ap (S1 4)<|Az<|A1 C C I Ax ⟨by first|rfl|(rw [decide_eq_true rfl])|(rw [decide_eq_true ⟨rfl,rfl⟩])|(simp;done),rfl⟩
  exact absurd ⟨rfl,rfl⟩ ab
 exact absurd rfl aa
theorem SameK_ok{kd wd mo bd:Int}{k k2:EnS}{v Z:KpV}(e:k=k2)(hF:KpF κ I nd k v)(M:KpF κ I nd k2 Z):eu prog κ 33 [.agg (kx kd wd mo bd nd k v).toArray,.agg (kx kd wd mo bd nd k2 Z).toArray] I λr J=>r = .bool true/\I=J:=by
 subst e;exact SameK_base hF M
end Go.Sl
