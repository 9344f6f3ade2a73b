/- A part of the proofs of statements of this seat: contracts of functions, and the plain laws that they lean on. No conditions. -/
import Derived.Test.YtoagcglbkeomgaaGreatDoorK26
set_option linter.unusedVariables false
set_option linter.unusedSimpArgs false
set_option linter.unusedSectionVars false
open Go.Proofs.Tryz (prog)
set_option maxHeartbeats 4000000
namespace Go.Sl
open Go.Proofs
set_option maxRecDepth 4000
variable{κ:Ctx}{I T:List Item}
section
variable {nd kd wd mo bd:Int}{k:EnS}{e:Ev}
theorem feed_evs(h:EnOk nd kd wd mo bd k)(he:FitOk nd e)(ht:k.b.mr<e.tm):(k.b.out bd e).Pairwise (λa b=>a.tm<=b.tm)/\∀x∈k.b.out bd e,FitOk nd x/\k.tm<=x.tm:=by
 obtain ⟨h1,h2⟩:=h.buf.out (e:=e) ht
 refine ⟨h2,λx M=>?_⟩
 have Z:FitOk nd x:=by
  rcases mem_push.1 (mem_upTo.1 M).1 with rfl|h4
  ·exact he
  exact h.fit x h4
 have h4:=h1 x M
 have h5:=h.tm
 have h6:=Z.tm
 exact ⟨Z,by omega⟩
theorem flush_evs(h:EnOk nd kd wd mo bd k):k.b.ws.Pairwise (λa b=>a.tm<=b.tm)/\∀x∈k.b.ws,FitOk nd x/\k.tm<=x.tm:=by
 refine ⟨h.buf.asc,λx Z=>?_⟩
 have M:=h.fit x Z
 have h4:=h.buf.rng x Z
 have h5:=h.tm
 have h6:=M.tm
 exact ⟨M,by omega⟩
theorem out_len(s:BfS)(bd:Int)(e:Ev):(s.out bd e).length<=s.ws.length+1:=by
 unfold BfS.out upTo
 exact Nat.le_trans (List.length_filter_le _ _)<|by rw [push_len];exact Nat.le_refl _
theorem push_wlen(s:BfS)(bd:Int)(e:Ev):(s.push bd e).ws.length<=s.ws.length+1:=by
 unfold BfS.push beyond
 exact Nat.le_trans (List.length_filter_le _ _)<|by rw [push_len];exact Nat.le_refl _
end
theorem Feed_ok{nd kd wd mo bd:Int}{k:EnS}{v:KpV}(hH:Has I T)(hF:KpF κ T nd k v)(hK:EnOk nd kd wd mo bd k)(aq:k.b.ws.length<=4000){xe:Ev}(hx:FitOk nd xe)(ht:k.b.mr<xe.tm)(hT:TabRd κ I 0 tzCells):eu prog κ 17 [.agg (kx kd wd mo bd nd k v).toArray,.agg (ez xe).toArray] I (λr J=>∃(v':KpV) (Y:List Item) (a:Option Addr) (c:Nat),r = .tuple #[.agg (kx kd wd mo bd nd ((k.feed kd wd mo bd xe)) v').toArray,.slice a ((k.fout kd wd mo bd xe)).length c,e7 0]/\KpF κ (Y++T) nd (k.feed kd wd mo bd xe) v'/\Sl κ (Y++T) (.slice a ((k.fout kd wd mo bd xe)).length c) (k.fout kd wd mo bd xe)/\J=Y++I):=by
 have ak:=feed_evs hK hx ht
 refine Ce2 Tryz.func17 C C ?_
 refine Af<|Ge1 (Bg (cs:=[_,_,_,_,_,_,_,_,_,_,_,_,_,_,_,_,_,_,_,_,_,_,_,_,_]) C C C) λb1=>Ge1 (Bg (cs:=[_,_,_,_,_,_,_]) C C C) λb2=>Ge1 (A3 ty47 C) λb3=>Ga C<|Ga C<|Ac<|Aq<|Af<|Gr (Runs.lq ty47) ?_
 refine Gc0 (Ak c_ C C<|KValid_ok (k:=k) (v:=v) (KpF.fit hF<|Db (κ:=κ)<|by repeat (first|exact hH|exact Ci _|apply Ch|apply C9|apply Has.app)) hK om<|Bm hT Ay) ?_
 refine Gr (Co C)<|Ac<|Dp C<|Av<|Ah<|Aq<|Af<|Gl7 ty54 ?_
 refine Gc0 (Ak c_ C C<|CheckE_ok xe) ?_
 refine Ga C<|Ac<|Af<|Gm C<|Gr (Bo C C)<|Ac<|Ao (S5 18 7 4 3 2 C C C C C)<|A5 C (λab=>?_)<|λab=>?_
 ·exact absurd hx.chk ab
 refine Av<|Ah<|Aq<|Af<|Gr (Runs.lq ty47) ?_
 refine Gl7 ty54 ?_
 refine Gc0 (Ak c_ C C<|NodeK_ok (nd:=nd) (e:=xe) hx) ?_
 refine Gr (Co C)<|Ac<|Dp C<|Av<|Ah<|Af<|Gf fld47_1 C<|Gl4 ty32 ?_
 refine Gl7 ty54 ?_
 refine G.e (Ak c_ C C<|BPush_ok (T:=T) (bf:=k.b) (e:=xe) (by repeat (first|exact hH|exact Ci _|apply Ch|apply C9|apply Has.app)) hF.w hK.buf om hx.chk ht hx.tm om) ?_
 rintro _ _ ⟨_,_,⟨ad,aj,ar,ap,Y4,rfl,aa,ae,rfl⟩,rfl,rfl⟩
 refine Eh (J:=e8 b3 zk 47::e8 b2 (ez xe) 54::e8 b1 (kx kd wd mo bd nd k v) 47::(Y4++I)) (C2<|Dl (A:=Y4) (L:=[e8 b3 zk 47,e8 b2 (ez xe) 54,e8 b1 (kx kd wd mo bd nd k v) 47]) (T:=I)) ?_
 refine Gm C<|Gr (Am C C)<|Gr (Am C C)<|Gr (Am C C)<|Ge1 (A3 ty32 C) λb9=>Ge0 (Dn ty32) ?_
 refine Ga C<|Ga C<|Ac<|Ao (S5 10 9 8 4 2 C C C C C)<|Aq<|Af<|Gm C<|Gr (Bo C C)<|Ac<|A5 C (λah=>?_)<|λah=>?_
 ·exact absurd ah dc
 refine Av<|Ah<|Af<|Gr (Runs.lq ty47) ?_
 refine Gl4 ty32 ?_
 refine Gm C<|G.e (Ak c_ C C<|Released_ok (T:=(Y4++T)) (k:=k) (v:=v) (bf:=(k.b.push bd xe)) (evs:=(k.b.out bd xe)) (by repeat (first|exact hH|exact Ci _|apply Ch|apply C9|apply Has.app)) (KpF.fit hF<|Fit.appR _ _) hK aa ae ak.1 ak.2 (by have h9:=push_wlen k.b bd xe;omega) (by have h9:=out_len k.b bd xe;omega)<|Bm hT Ay) ?_
 rintro _ _ ⟨_,_,⟨ao,Y11,ai,an,rfl,M,Z,rfl⟩,rfl,rfl⟩
 refine Eh (J:=e8 b9 [e7 bd,e7<|(k.b.push bd xe).lt,e7<|(k.b.push bd xe).mr,.slice ad (k.b.push bd xe).ws.length aj] 32::e8 b3 zk 47::e8 b2 (ez xe) 54::e8 b1 (kx kd wd mo bd nd k v) 47::(Y11++(Y4++I))) (C2<|Dl (A:=Y11) (L:=[e8 b9 [e7 bd,e7<|(k.b.push bd xe).lt,e7<|(k.b.push bd xe).mr,.slice ad (k.b.push bd xe).ws.length aj] 32,e8 b3 zk 47,e8 b2 (ez xe) 54,e8 b1 (kx kd wd mo bd nd k v) 47]) (T:=(Y4++I))) ?_
 refine Gr (Am C C)<|Gr (Am C C)<|Gr (Am C C)<|Ge0 (Eff.sq ty47) ?_
 exact Ga C<|Ga C<|Ac<|Ao (S3 6 5 4 C C C)<|Az<|C6 C ty47 C C C mm C (((Y11++Y4)++I)) (by rw [List.append_assoc];exact Bl) ⟨ao,(Y11++Y4),ai,an,rfl,(by rw [List.append_assoc];exact M),(by rw [List.append_assoc];exact Z),rfl⟩
theorem FeedL_ok{nd kd wd mo bd:Int}{k:EnS}{v:KpV}(hF:KpF κ I nd k v)(hK:EnOk nd kd wd mo bd k)(aa:k.b.ws.length<=4000){xe:Ev}(hx:FitOk nd xe)(ht:xe.tm<=k.b.mr)(hT:TabRd κ I 0 tzCells):eu prog κ 17 [.agg (kx kd wd mo bd nd k v).toArray,.agg (ez xe).toArray] I (λr J=>r = .tuple #[.agg zk.toArray,.slice none 0 0,e7 10]/\I=J):=by
 refine Ce2 Tryz.func17 C C ?_
 refine Af<|Ge1 (Bg (cs:=[_,_,_,_,_,_,_,_,_,_,_,_,_,_,_,_,_,_,_,_,_,_,_,_,_]) C C C) λb1=>Ge1 (Bg (cs:=[_,_,_,_,_,_,_]) C C C) λb2=>Ge1 (A3 ty47 C) λb3=>Ga C<|Ga C<|Ac<|Aq<|Af<|Gr (Runs.lq ty47) ?_
 refine Gc0 (Ak c_ C C<|KValid_ok (k:=k) (v:=v) (KpF.fit hF Ay) hK om<|Bm hT Ay) ?_
 refine Gr (Co C)<|Ac<|Dp C<|Av<|Ah<|Aq<|Af<|Gl7 ty54 ?_
 refine Gc0 (Ak c_ C C<|CheckE_ok xe) ?_
 refine Ga C<|Ac<|Af<|Gm C<|Gr (Bo C C)<|Ac<|Ao (S5 18 7 4 3 2 C C C C C)<|A5 C (λZ=>?_)<|λZ=>?_
 ·exact absurd hx.chk Z
 refine Av<|Ah<|Aq<|Af<|Gr (Runs.lq ty47) ?_
 refine Gl7 ty54 ?_
 refine Gc0 (Ak c_ C C<|NodeK_ok (nd:=nd) (e:=xe) hx) ?_
 refine Gr (Co C)<|Ac<|Dp C<|Av<|Ah<|Af<|Gf fld47_1 C<|Gl4 ty32 ?_
 refine Gl7 ty54 ?_
 refine G.e (Ak c_ C C<|BPushL_ok (bf:=k.b) (e:=xe) (Bz hF.w<|Db (κ:=κ)<|by repeat (first|exact hH|exact Ci _|apply Ch|apply C9|apply Has.app)) hK.buf om hx.chk ht) ?_
 rintro _ _ ⟨_,_,⟨ab,ad,rfl,rfl⟩,rfl,rfl⟩
 refine Gm C<|Gr (Am C C)<|Gr (Am C C)<|Gr (Am C C)<|Ge1 (A3 ty32 C) λb6=>Ge0 (Dn ty32) ?_
 refine Ga C<|Ga C<|Ac<|Ao (S5 10 9 8 4 2 C C C C C)<|Aq<|Af<|Gm C<|Gr (Bo C C)<|Ac<|A5 C (λM=>?_)<|λM=>?_
 ·refine Af (Gr (Bp (cells:=zk) ty47 Tryz.underlying47 pl47 C kr)<|Gm C<|Ge0 (Eff.sq ty47) ?_)
  exact Ga C<|Ga C<|Ac<|Az<|Ap<|C6 C ty47 C C C mm C I Ay ⟨rfl,rfl⟩
 exact absurd dc M
theorem Flush_ok{nd kd wd mo bd:Int}{k:EnS}{v:KpV}(hH:Has I T)(hF:KpF κ T nd k v)(hK:EnOk nd kd wd mo bd k)(ao:k.b.ws.length<=4000)(hT:TabRd κ I 0 tzCells):eu prog κ 26 [.agg (kx kd wd mo bd nd k v).toArray] I (λr J=>∃(v':KpV) (Y:List Item) (a:Option Addr) (c:Nat),r = .tuple #[.agg (kx kd wd mo bd nd ((k.flush kd wd mo)) v').toArray,.slice a ((k.xout kd wd mo)).length c,e7 0]/\KpF κ (Y++T) nd (k.flush kd wd mo) v'/\Sl κ (Y++T) (.slice a ((k.xout kd wd mo)).length c) (k.xout kd wd mo)/\J=Y++I):=by
 have ah:=flush_evs hK
 refine Ce1 Tryz.func26 C C ?_
 refine Af<|Ge1 (Bg (cs:=[_,_,_,_,_,_,_,_,_,_,_,_,_,_,_,_,_,_,_,_,_,_,_,_,_]) C C C) λb1=>Ge1 (A3 ty47 C) λb2=>Ga C<|Ga C<|Ac<|Aq<|Af<|Gr (Runs.lq ty47) ?_
 refine Gc0 (Ak c_ C C<|KValid_ok (k:=k) (v:=v) (KpF.fit hF<|Db (κ:=κ)<|by repeat (first|exact hH|exact Ci _|apply Ch|apply C9|apply Has.app)) hK om<|Bm hT Ay) ?_
 refine Gr (Co C)<|Ac<|Dp C<|Av<|Ah<|Af<|Gf fld47_1 C<|Gl4 ty32 ?_
 refine G.e (Ak c_ C C<|BFlush_ok (T:=T) (bf:=k.b) (by repeat (first|exact hH|exact Ci _|apply Ch|apply C9|apply Has.app)) hF.w hK.buf om) ?_
 rintro _ _ ⟨_,_,⟨ad,ak,ap,aq,Y3,rfl,ae,aa,rfl⟩,rfl,rfl⟩
 refine Eh (J:=e8 b2 zk 47::e8 b1 (kx kd wd mo bd nd k v) 47::(Y3++I)) (C2<|Dl (A:=Y3) (L:=[e8 b2 zk 47,e8 b1 (kx kd wd mo bd nd k v) 47]) (T:=I)) ?_
 refine Gm C<|Gr (Am C C)<|Gr (Am C C)<|Gr (Am C C)<|Ge1 (A3 ty32 C) λb8=>Ge0 (Dn ty32) ?_
 refine Ga C<|Ga C<|Ac<|Ao (S5 7 6 5 2 1 C C C C C)<|Aq<|Af<|Gm C<|Gr (Bo C C)<|Ac<|A5 C (λab=>?_)<|λab=>?_
 ·exact absurd ab dc
 refine Av<|Ah<|Af<|Gr (Runs.lq ty47) ?_
 refine Gl4 ty32 ?_
 refine Gm C<|G.e (Ak c_ C C<|Released_ok (T:=(Y3++T)) (k:=k) (v:=v) (bf:=k.b.flush) (evs:=k.b.ws) (by repeat (first|exact hH|exact Ci _|apply Ch|apply C9|apply Has.app)) (KpF.fit hF<|Fit.appR _ _) hK ae aa ah.1 ah.2 (by show (0:Nat)<=100000;omega) om<|Bm hT Ay) ?_
 rintro _ _ ⟨_,_,⟨an,Y10,ai,aj,rfl,M,Z,rfl⟩,rfl,rfl⟩
 refine Eh (J:=e8 b8 [e7 bd,e7<|k.b.flush.lt,e7<|k.b.flush.mr,.slice ad k.b.flush.ws.length ak] 32::e8 b2 zk 47::e8 b1 (kx kd wd mo bd nd k v) 47::(Y10++(Y3++I))) (C2<|Dl (A:=Y10) (L:=[e8 b8 [e7 bd,e7<|k.b.flush.lt,e7<|k.b.flush.mr,.slice ad k.b.flush.ws.length ak] 32,e8 b2 zk 47,e8 b1 (kx kd wd mo bd nd k v) 47]) (T:=(Y3++I))) ?_
 refine Gr (Am C C)<|Gr (Am C C)<|Gr (Am C C)<|Ge0 (Eff.sq ty47) ?_
 exact Ga C<|Ga C<|Ac<|Ao (S3 4 3 2 C C C)<|Az<|C6 C ty47 C C C mm C (((Y10++Y3)++I)) (by rw [List.append_assoc];exact Bl) ⟨an,(Y10++Y3),ai,aj,rfl,(by rw [List.append_assoc];exact M),(by rw [List.append_assoc];exact Z),rfl⟩
end Go.Sl
namespace Go.Sl
variable {P:Program}{κ:Ctx}{N:Frm}{L:Env}{J:List Item}{d:Option Tmp}{ty:TypeId}{ps:String}{af:Array Edge}{gd:Option (Nat×Bool)}
theorem Runs.max4{x y z u:Operand}(hx:er L x=some (e7 0))(hy:er L y=some (e7 0))(hz:er L z=some (e7 0))(hu:er L u=some (e7 0)){M:Array TypeId} :
  Runs P κ N ⟨d,.call {callee:= .builtin .max,args:= #[x,y,z,u],argTypes:=M},ty,ps,af,gd⟩ L J (e7 0):=
 λa w Z _=>by simp [execOp,resolve,invoke,builtin,Z.eval hx,Z.eval hy,Z.eval hz,Z.eval hu,Builtin.max_,Builtin.max2]
end Go.Sl
namespace Go.Sl
open Go.Proofs
set_option maxRecDepth 4000
variable{most n nd:Int}{T:List Item}{b:Nat}{lv:Value}{ls:List Int}
theorem gr_nil(h:0<=nd/\nd<=64):GrOk nd ([]:List Pt):=⟨h,List.Pairwise.nil,λe Z=>by cases Z⟩
theorem KOpen_ok{κ:Ctx}{I:List Item}{kd wd mo bd:Int}(T:List Item)(av:0<=nd/\nd<=64)(hw:checkW kd wd mo=0)(hb:0<=bd/\bd<=1048576)(hT:TabRd κ I 0 tzCells):eu prog κ 14 [e7 nd,e7 bd,.agg #[e7 kd,e7 wd,e7 mo]] I (λr J=>∃(v':KpV) (Y:List Item),r = .tuple #[.agg (kx kd wd mo bd nd ((⟨⟨-1, -1,[]⟩,[],0⟩:EnS)) v').toArray,e7 0]/\KpF κ (Y++T) nd (⟨⟨-1, -1,[]⟩,[],0⟩:EnS) v'/\J=Y++I):=by
 refine Ce3 Tryz.func14 C C ?_
 refine Af<|Ge1 (Bg (cs:=[_,_,_]) C C C) λb1=>Ge1 (A3 ty47 C) λb2=>Ga C<|Ac<|Aq<|Af<|Gm C<|Gr (A4 C C)<|Gm C<|Bt (d:=21) C (λaz=>?_)<|λaz=>?_
 ·omega
 refine e9 (Ai C)<|e9 (Cc C C)<|Gr (A6 C C)<|Ac<|A5 C (λa0=>?_)<|λa0=>?_
 ·omega
 refine Av<|Ah<|Af<|Gm C<|Gc0 (Ak c_ C C<|BOpen_ok hb) ?_
 refine Gm C<|Gr (Am C C)<|Gr (Am C C)<|Ge1 (A3 ty32 C) λb3=>Ge0 (Dn ty32) ?_
 refine Ga C<|Ac<|Ao (S5 9 8 6 5 0 C C C C C)<|Aq<|Af<|Gm C<|Gr (Bo C C)<|Ac<|A5 C (λax=>?_)<|λax=>?_
 ·exact absurd ax dc
 refine Av<|Ah<|Aq<|Af<|Gl3 ty29 ?_
 refine G.e (Ak c_ C C<|CheckW_ok kd wd mo) ?_
 rintro _ _ ⟨_,_,⟨rfl,rfl⟩,rfl,rfl⟩
 refine Ga C<|Ac<|Af<|Gm C<|Gr (Bo C C)<|Ac<|A5 C (λay=>?_)<|λay=>?_
 ·exact absurd hw ay
 refine Av<|Ah<|Af<|Gm C<|Gr (Bp (cells:=[_,_]) ty38 Cy pl38 C C)<|Ge1 (A3 ty38 C) λb4=>Ge0 (Cz ty38) ?_
 refine Ac<|Ao (S5 11 8 6 5 0 C C C C C)<|Af<|Gl2 ty38 ?_
 refine G.e (Ak c_ C C<|RepO_ok (nd:=nd) (es:=([]:List Pt)) (Sl.nil _) (gr_nil av)<|Bm hT Ay) ?_
 rintro _ _ ⟨_,_,⟨aq,ar,au,ap,rfl,rfl⟩,rfl,rfl⟩
 refine Gm C<|Gr (Am C C)<|Gr (Am C C)<|Ge1 (A3 ty40 C) λb9=>Ge0 (Dc ty40) ?_
 refine Ga C<|Ac<|Af<|Gl2 ty38 ?_
 refine G.e (Ak c_ C C<|MOpen_ok (nd:=nd) (es:=([]:List Pt)) (Sl.nil _) (gr_nil av)<|Bm hT Ay) ?_
 rintro _ _ ⟨_,_,⟨ai,ae,ab,ak,rfl,rfl⟩,rfl,rfl⟩
 refine Gm C<|Gr (Am C C)<|Gr (Am C C)<|Ge1 (A3 ty41 C) λa4=>Ge0 (Dc ty41) ?_
 refine Ga C<|Ac<|Ao (S9 14 13 9 12 11 8 6 5 0 C C C C C C C C C)<|Af<|Gl2 ty38 ?_
 refine G.e (Ak c_ C C<|TOpen_ok (nd:=nd) (es:=([]:List Pt)) (Sl.nil _)<|gr_nil av) ?_
 rintro _ _ ⟨_,_,⟨ad,aj,ao,Z,rfl,rfl⟩,rfl,rfl⟩
 refine Gm C<|Gr (Am C C)<|Gr (Am C C)<|Ge1 (A3 ty43 C) λa3=>Ge0 (Dn ty43) ?_
 refine Ga C<|Ac<|Ao (S11 16 15 14 13 9 12 11 8 6 5 0 C C C C C C C C C C C)<|Af<|Gl2 ty38 ?_
 refine G.e (Ak c_ C C<|QOpen_ok (nd:=nd) (es:=([]:List Pt)) (Sl.nil _) (gr_nil av)<|Bm hT Ay) ?_
 rintro _ _ ⟨_,_,⟨aa,ah,an,M,rfl,rfl⟩,rfl,rfl⟩
 refine Gm C<|Gr (Am C C)<|Gr (Am C C)<|Ge1 (A3 ty45 C) λa1=>Ge0 (Fa ty45) ?_
 refine Ga C<|Ac<|Ao (S12 18 17 16 15 14 13 9 12 8 6 5 0 C C C C C C C C C C C C)<|Aq<|Af<|Gm C<|Gm C<|Gm C<|Gm C<|Gr (Runs.max4 C C C C)<|Ga C<|Ac<|Ao (S9 9 17 15 13 12 8 6 5 0 C C C C C C C C C)<|Af<|Gm C<|Gr (Bo C C)<|Ac<|A5 C (λaw=>?_)<|λaw=>?_
 ·exact absurd aw dc
 refine Av<|Ah<|Af<|Gl3 ty29 ?_
 refine Gl4 ty32 ?_
 refine Gm C<|Gr (Bp (cells:=[_,_]) ty35 Tryz.underlying35 pl35 C C)<|Gl3 ty40 ?_
 refine Gl3 ty41 ?_
 refine Gl4 ty43 ?_
 refine Gr (Be (vs:=[_,_,_,_,_]) ty45) ?_
 refine Gr (Bp (cells:=[e7 kd,e7 wd,e7 mo,e7 bd,e7<|(-1),e7<|(-1),.slice none 0 0,e7 nd,.slice none 0 0,e7 nd,.slice aq ([]:List Pt).length ar,.slice au (coreN nd ([]:List Pt)).length ap,e7 nd,.slice ai ([]:List Pt).length ae,.slice ab (trussG nd ([]:List Pt)).length ak,e7 nd,.slice ad ([]:List Pt).length aj,e7<|triS nd ([]:List Pt) / 3,.slice ao (triL nd ([]:List Pt)).length Z,e7 nd,.slice aa ([]:List Pt).length ah,e7<|wedgeC nd ([]:List Pt),e7<|quadC nd ([]:List Pt),.slice an (quadL nd ([]:List Pt)).length M,e7 0]) ty47 Tryz.underlying47 pl47 C kr)<|Ge0 (Eff.sq ty47) ?_
 exact Ga C<|Ac<|Ao (S2 7 6 C C)<|Az<|C0 C ty47 C C mm C (([vk 105 aq ar ([]:List Pt),vc 3 (.slice au (coreN nd ([]:List Pt)).length ap)<|coreN nd ([]:List Pt),vc 105 (.slice ai ([]:List Pt).length ae)<|([]:List Pt),vc 3 (.slice ab (trussG nd ([]:List Pt)).length ak)<|trussG nd ([]:List Pt),vc 105 (.slice ad ([]:List Pt).length aj)<|([]:List Pt),vc 3 (.slice ao (triL nd ([]:List Pt)).length Z)<|triL nd ([]:List Pt),vc 105 (.slice aa ([]:List Pt).length ah)<|([]:List Pt),vc 3 (.slice an (quadL nd ([]:List Pt)).length M)<|quadL nd ([]:List Pt)]++I)) Bl ⟨⟨⟨none,0⟩,⟨none,0⟩,⟨⟨aq,ar⟩,⟨au,ap⟩,⟨ai,ae⟩,⟨ab,ak⟩,⟨ad,aj⟩,⟨ao,Z⟩,⟨aa,ah⟩,⟨an,M⟩⟩⟩,[vk 105 aq ar ([]:List Pt),vc 3 (.slice au (coreN nd ([]:List Pt)).length ap)<|coreN nd ([]:List Pt),vc 105 (.slice ai ([]:List Pt).length ae)<|([]:List Pt),vc 3 (.slice ab (trussG nd ([]:List Pt)).length ak)<|trussG nd ([]:List Pt),vc 105 (.slice ad ([]:List Pt).length aj)<|([]:List Pt),vc 3 (.slice ao (triL nd ([]:List Pt)).length Z)<|triL nd ([]:List Pt),vc 105 (.slice aa ([]:List Pt).length ah)<|([]:List Pt),vc 3 (.slice an (quadL nd ([]:List Pt)).length M)<|quadL nd ([]:List Pt)],rfl,⟨Sl.nil _,Sl.nil _,⟨Bf,Bf,Bf,Bf,Bf,Bf,Bf,Bf⟩⟩,rfl⟩
theorem FeedA_ok{κ:Ctx}{I:List Item}{kd wd mo bd:Int}{k:EnS}{v:KpV}(hH:Has I T)(hF:KpF κ T nd k v)(M:EnOk nd kd wd mo bd k)(Z:k.b.ws.length<=4000){xe:Ev}(hx:FitOk nd xe)(hT:TabRd κ I 0 tzCells):eu prog κ 17 [.agg (kx kd wd mo bd nd k v).toArray,.agg (ez xe).toArray] I λr J=>(xe.tm<=k.b.mr/\r = .tuple #[.agg zk.toArray,.slice none 0 0,e7 10]/\I=J)\/(k.b.mr<xe.tm/\∃(v':KpV) (Y:List Item) (a:Option Addr) (c:Nat),r = .tuple #[.agg (kx kd wd mo bd nd ((k.feed kd wd mo bd xe)) v').toArray,.slice a ((k.fout kd wd mo bd xe)).length c,e7 0]/\KpF κ (Y++T) nd (k.feed kd wd mo bd xe) v'/\Sl κ (Y++T) (.slice a ((k.fout kd wd mo bd xe)).length c) (k.fout kd wd mo bd xe)/\J=Y++I):=by
 by_cases ht:xe.tm<=k.b.mr
 ·exact (FeedL_ok (hF.fit hH.fit) M Z hx ht hT).mono λr J h=> .inl ⟨ht,h⟩
 exact (Feed_ok hH hF M Z hx om hT).mono λr J h=> .inr ⟨by omega,h⟩
section
variable {kd wd mo bd:Int}{k k0:EnS}{evs:List Ev}{e:Ev}{i:Nat}
theorem run_next(Z:k=k0.all kd wd mo bd (evs.take i))(hi:i<evs.length)(M:e_ evs i=e):k.next kd wd mo bd e=k0.all kd wd mo bd (evs.take (i+1)):=by
 rw [Cj evs i hi,EnS.all_app,←Z,M];rfl
theorem run_late(M:k=k0.all kd wd mo bd (evs.take i))(hi:i<evs.length)(he:e_ evs i=e)(Z:e.tm<=k.b.mr):k=k0.all kd wd mo bd (evs.take (i+1)):=by
 rw [←run_next M hi he];unfold EnS.next;rw [if_pos Z]
theorem run_feed(Z:k=k0.all kd wd mo bd (evs.take i))(hi:i<evs.length)(M:e_ evs i=e)(ht:k.b.mr<e.tm):k.feed kd wd mo bd e=k0.all kd wd mo bd (evs.take (i+1)):=by
 rw [←run_next Z hi M];unfold EnS.next;rw [if_neg om]
theorem run_cnt(M:k=k0.all kd wd mo bd (evs.take i))(hi:i<evs.length)(he:e_ evs i=e):BfS.lates bd k0.b (evs.take (i+1))=BfS.lates bd k0.b (evs.take i)+(if e.tm<=k.b.mr then 1 else 0):=by
 have Z:=(all_rel (kd:=kd) (wd:=wd) (mo:=mo) (bd:=bd) (evs.take i) k0).1
 have h2:k.b=k0.b.all bd (evs.take i):=by rw [M,Z];rfl
 rw [Cj evs i hi,BfS.lates_app,he,h2];rfl
theorem feed_wlen(k:EnS)(e:Ev):(k.feed kd wd mo bd e).b.ws.length<=k.b.ws.length+1:=push_wlen k.b bd e
end
theorem lates_lenB(bd:Int):∀(l:List Ev) (s:BfS),BfS.lates bd s l<=l.length
 |[],s=>Nat.le_refl _
 |e::l,s=>by
  have h:=lates_lenB bd l (s.next bd e)
  show (if e.tm<=s.mr then 1 else 0)+BfS.lates bd (s.next bd e) l<=l.length+1
  split<;>omega
theorem lates_len(bd:Int)(s:BfS)(l:List Ev):BfS.lates bd s l<=l.length:=lates_lenB bd l s
theorem KRun_ok{κ:Ctx}{I:List Item}{kd wd mo bd:Int}{evs:List Ev}{ea:Option Addr}{ec:Nat}(hH:Has I T)(he:Sl κ I (.slice ea evs.length ec) evs)(ak:0<=nd/\nd<=64)(hw:checkW kd wd mo=0)(hb:0<=bd/\bd<=1048576)(an:∀e∈evs,FitOk nd e)(a5:evs.length<=4000)(hT:TabRd κ I 0 tzCells):eu prog κ 30 [e7 nd,e7 bd,.agg #[e7 kd,e7 wd,e7 mo],.slice ea evs.length ec] I (λr J=>∃(v':KpV) (Y:List Item),r = .tuple #[.agg (kx kd wd mo bd nd ((EnS.run kd wd mo bd evs)) v').toArray,e7 (((BfS.lates bd ⟨-1, -1,[]⟩ evs):Nat):Int),e7 0]/\KpF κ (Y++T) nd (EnS.run kd wd mo bd evs) v'/\J=Y++I):=by
 refine Ce4 Tryz.func30 C C ?_
 refine Af<|Ge1 (Bg (cs:=[_,_,_]) C C C) λb1=>Ge1 (A3 ty47 C) λb2=>Ga C<|Ga C<|Ac<|Af<|Gm C<|Gm C<|Gl3 ty29 ?_
 refine G.e (Ak c_ C C<|KOpen_ok (nd:=nd) (bd:=bd) T ak hw hb<|Bm hT Ay) ?_
 rintro _ _ ⟨_,_,⟨aq,Y4,rfl,ao,rfl⟩,rfl,rfl⟩
 refine Eh (J:=e8 b2 zk 47::e8 b1 [e7 kd,e7 wd,e7 mo] 29::(Y4++I)) (C2<|Dl (A:=Y4) (L:=[e8 b2 zk 47,e8 b1 [e7 kd,e7 wd,e7 mo] 29]) (T:=I)) ?_
 refine Gm C<|Gr (Am C C)<|Gr (Am C C)<|Ge1 (A3 ty47 C) λb5=>Ge0 (Eff.sq ty47) ?_
 refine Ga C<|Ac<|Ao (S4 12 11 8 3 C C C C)<|Aq<|Af<|Gm C<|Gr (Bo C C)<|Ac<|A5 C (λaj=>?_)<|λaj=>?_
 ·exact absurd aj dc
 refine Av<|Ah<|Af<|Ga C<|Ac<|Aq<|Af<|Gm C<|Gr (Bh A0 C)<|Gm C<|Ac<|Aw<|Bu (σ:=Nat×EnS×KpV×(List Item)×Nat) (λs=>([(8,pt b2),(11,pt b5),(13,e7 ((s.2.2.2.2:Nat):Int)),(30,.slice ea evs.length ec),(31,e7 ((evs.length:Nat):Int)),(32,e7 ((s.1:Nat):Int))]:Env)) (λs=>e8 b5 (kx kd wd mo bd nd s.2.1 s.2.2.1) 47::e8 b2 zk 47::e8 b1 [e7 kd,e7 wd,e7 mo] 29::(s.2.2.2.1++I)) (λs=>(s.1<=evs.length)/\(s.2.1=(⟨⟨-1, -1,[]⟩,[],0⟩:EnS).all kd wd mo bd (evs.take s.1))/\(s.2.2.2.2=BfS.lates bd ⟨-1, -1,[]⟩ (evs.take s.1))/\(EnOk nd kd wd mo bd s.2.1)/\(KpF κ (s.2.2.2.1++T) nd s.2.1 s.2.2.1)/\(s.2.1.b.ws.length<=s.1)) (λs=>evs.length - s.1) (0,(⟨⟨-1, -1,[]⟩,[],0⟩:EnS),aq,Y4,0) ⟨om,rfl,rfl,(EnOk.open_ ak hw hb),ao,(by show (0:Nat)<=0;omega)⟩ (Aa C<|Aa C<|Aa B2<|Aa C<|Aa C<|Aa B2 Bi) Bl ?_
 rintro ⟨i,k,v,Y,n⟩ hp
 dsimp only at hp ⊢
 obtain ⟨hi,hk,hn,hK,hF,az⟩:=hp
 have a0:n<=i:=by rw [hn];exact Nat.le_trans (lates_len _ _ _) (by rw [List.length_take];omega)
 refine Af<|Gr (A4 C C)<|Ac<|Aq<|A5 C (λau=>?_)<|λau=>?_
 ·refine Av (Ah<|Aq<|Aw<|Af<|Gr (Ax (α:=Ev) (xs:=evs) A0 ty54 C C (A8 he) om om)<|Gr (Bx (α:=Ev) (xs:=evs) ty54 C (A8 he) om om) ?_)
  have ab:=an _ (B1 (xs:=evs) (i:=(i:Int)) om om)
  generalize hxe:e_ evs i=xe at ab ⊢
  refine Ge1 (A3 ty54 C) λb6=>Ge0 (Es7_7 ty54) ?_
  refine Ac<|Af<|Gr (Runs.lq ty47) ?_
  refine Gl7 ty54 ?_
  refine G.e (Ak c_ C C<|FeedA_ok (T:=(Y++T)) (k:=k) (v:=v) (by repeat (first|exact hH|exact Ci _|apply Ch|apply C9|apply Has.app)) hF hK om ab<|Bm hT Ay) ?_
  rintro _ _ ⟨_,_,(⟨Z,rfl,rfl⟩|⟨Z,ar,Y8,a4,ax,rfl,ah,av,rfl⟩),rfl,rfl⟩
  ·skip
   refine Gm C<|Gr (Am C C)<|Gr (Am C C)<|Gr (Am C C)<|Ge1 (A3 ty47 C) λa1=>Ge0 (Eff.sq ty47) ?_
   refine Ga C<|Ga C<|Ac<|Ao (S8 18 16 8 11 13 30 31 32 C C C C C C C C)<|Af<|Gm C<|Ac<|Aw<|Af<|Gr (Bw C C)<|Ga C<|Ac<|A5 C (λM=>?_)<|λM=>?_
   ·exact absurd M dc
   refine Af<|Gr (Bw C C)<|Ga C<|Ac<|A5 C (λae=>?_)<|λae=>?_
   ·exact Ar<|Gm C<|Gr (Rad C C)<|Ga C<|Bj<|Aj<|Aj<|Ah<|Ao (S6 13 8 11 30 31 32 C C C C C C)<|Ar<|Gr (Rad C C)<|Gm C<|Bj<|B3 ((i+1),(k),(v),(Y),(n+1))<|by dsimp only;exact ⟨om,(run_late hk om hxe Z),(by rw [run_cnt (k0:=(⟨⟨-1, -1,[]⟩,[],0⟩:EnS)) hk om hxe,if_pos Z,hn]),hK,hF,om⟩
   exact absurd dc ae
  refine Eh (J:=e8 b6 (ez xe) 54::e8 b5 (kx kd wd mo bd nd k v) 47::e8 b2 zk 47::e8 b1 [e7 kd,e7 wd,e7 mo] 29::(Y8++(Y++I))) (C2<|Dl (A:=Y8) (L:=[e8 b6 (ez xe) 54,e8 b5 (kx kd wd mo bd nd k v) 47,e8 b2 zk 47,e8 b1 [e7 kd,e7 wd,e7 mo] 29]) (T:=(Y++I))) ?_
  refine Gm C<|Gr (Am C C)<|Gr (Am C C)<|Gr (Am C C)<|Ge1 (A3 ty47 C) λa3=>Ge0 (Eff.sq ty47) ?_
  refine Ga C<|Ga C<|Ac<|Ao (S8 18 16 8 11 13 30 31 32 C C C C C C C C)<|Af<|Gm C<|Ac<|Aw<|Af<|Gr (Bw C C)<|Ga C<|Ac<|A5 C (λM=>?_)<|λM=>?_
  ·refine Ar (Gr (Runs.lq ty47) ?_)
   refine Ge0 (Eff.sq ty47) ?_
   exact Bj<|Aj<|Aj<|Ah<|Ar<|Gr (Rad C C)<|Gm C<|Bj<|B3 ((i+1),((k.feed kd wd mo bd xe)),(ar),((Y8++Y)),(n)) (by dsimp only;exact ⟨om,(run_feed hk om hxe Z),(by rw [run_cnt (k0:=(⟨⟨-1, -1,[]⟩,[],0⟩:EnS)) hk om hxe,if_neg om,hn];rfl),(hK.feed ab Z),(by rw [List.append_assoc];exact ah),(by have h9:=feed_wlen (kd:=kd) (wd:=wd) (mo:=mo) (bd:=bd) k xe;omega)⟩) (hI:=by (try dsimp only);exact (by rw [List.append_assoc];exact Bl))
  exact absurd dc M
 refine Bs<|Al<|Al<|A2<|Ah<|Af<|Gr (Runs.lq ty47) ?_
 refine G.e (Ak c_ C C<|Flush_ok (T:=(Y++T)) (k:=k) (v:=v) (by repeat (first|exact hH|exact Ci _|apply Ch|apply C9|apply Has.app)) hF hK om<|Bm hT Ay) ?_
 rintro _ _ ⟨_,_,⟨ad,Y14,aw,ay,rfl,aa,ap,rfl⟩,rfl,rfl⟩
 refine Eh (J:=e8 b5 (kx kd wd mo bd nd k v) 47::e8 b2 zk 47::e8 b1 [e7 kd,e7 wd,e7 mo] 29::(Y14++(Y++I))) (C2<|Dl (A:=Y14) (L:=[e8 b5 (kx kd wd mo bd nd k v) 47,e8 b2 zk 47,e8 b1 [e7 kd,e7 wd,e7 mo] 29]) (T:=(Y++I))) ?_
 refine Gm C<|Gr (Am C C)<|Gr (Am C C)<|Gr (Am C C)<|Ge0 (Eff.sq ty47) ?_
 refine Ga C<|Ac<|Ao (S4 12 8 11 13 C C C C)<|Aq<|Af<|Gm C<|Gr (Bo C C)<|Ac<|A5 C (λai=>?_)<|λai=>?_
 ·exact absurd ai dc
 refine Av<|Ah<|Af<|Gr (Runs.lq ty47) ?_
 refine Gm C<|Ge0 (Eff.sq ty47) ?_
 refine Ga C<|Ga C<|Ac<|Az ?_
 rw [show evs.take i=evs from List.take_of_length_le om] at hk hn
 have hR:(EnS.run kd wd mo bd evs)=k.flush kd wd mo:=by rw [hk];rfl
 rw [hR,←hn]
 exact C6 C ty47 C C C mm C (((Y14++Y)++I)) (by rw [List.append_assoc];exact Bl) ⟨ad,(Y14++Y),rfl,(by rw [List.append_assoc];exact aa),rfl⟩
abbrev evs41:List Ev:=[⟨1,1,0,1,1,0,1⟩,⟨1,2,1,2,1,0,1⟩,⟨1,3,0,2,1,0,1⟩]
theorem evs41_fit:∀e∈evs41,FitOk 3 e:=λe Z=>fitE_ok.1 (by
 simp only [List.mem_cons,List.not_mem_nil,or_false] at Z
 rcases Z with rfl|rfl|rfl<;>decide)
theorem evs41_run:runB 0 evs41=evs41:=by decide+kernel
theorem evs41_lates:BfS.lates 0 ⟨-1, -1,[]⟩ evs41=0:=by decide+kernel
theorem evs41_all:(EnS.run 1 0 0 0 evs41).S=[⟨0,1,1,0,1,1⟩,⟨0,2,1,0,1,3⟩,⟨1,2,1,0,1,2⟩]:=by
 rw [run_eq,evs41_run];decide+kernel
theorem st41(T:Int)(S:List Lk)(o:List Ev)(e:Ev)(Z:e.tm=T):evStep 2 2 0 (S,o) e=(ep (ageL 2 0 T S o).1 e,(ageL 2 0 T S o).2++[e]):=by rw [←Z];rfl
theorem evs41_age:(EnS.run 2 2 0 0 evs41).S=[⟨0,2,1,0,1,3⟩,⟨1,2,1,0,1,2⟩]:=by
 have Z:evStep 2 2 0 ([],[]) ⟨1,1,0,1,1,0,1⟩=([⟨0,1,1,0,1,1⟩],[⟨1,1,0,1,1,0,1⟩]):=by
  rw [st41 1 _ _ _ rfl,ageL_stop<|by decide+kernel];decide+kernel
 have a2:evStep 2 2 0 ([⟨0,1,1,0,1,1⟩],[⟨1,1,0,1,1,0,1⟩]) ⟨1,2,1,2,1,0,1⟩=([⟨0,1,1,0,1,1⟩,⟨1,2,1,0,1,2⟩],[⟨1,1,0,1,1,0,1⟩,⟨1,2,1,2,1,0,1⟩]):=by
  rw [st41 2 _ _ _ rfl,ageL_stop<|by decide+kernel];decide+kernel
 have s3:List.filter (inW 2 2 0 (minT ([⟨0,1,1,0,1,1⟩,⟨1,2,1,0,1,2⟩]:List Lk)+2) [⟨0,1,1,0,1,1⟩,⟨1,2,1,0,1,2⟩]) ([⟨0,1,1,0,1,1⟩,⟨1,2,1,0,1,2⟩]:List Lk)=[⟨1,2,1,0,1,2⟩]:=by decide+kernel
 have M:(evStep 2 2 0 ([⟨0,1,1,0,1,1⟩,⟨1,2,1,0,1,2⟩],[⟨1,1,0,1,1,0,1⟩,⟨1,2,1,2,1,0,1⟩]) ⟨1,3,0,2,1,0,1⟩).1=[⟨0,2,1,0,1,3⟩,⟨1,2,1,0,1,2⟩]:=by
  rw [st41 3 _ _ _ rfl,ageL_step<|by decide+kernel,s3,ageL_stop<|by decide+kernel];decide+kernel
 rw [run_eq,evs41_run]
 show (evStep 2 2 0 (evStep 2 2 0 (evStep 2 2 0 ([],[]) ⟨1,1,0,1,1,0,1⟩) ⟨1,2,1,2,1,0,1⟩) ⟨1,3,0,2,1,0,1⟩).1=_
 rw [Z,a2,M]
theorem Awake41_ok{κ:Ctx}{I:List Item}(hT:TabRd κ I 0 tzCells):eu prog κ 11 [] I (λr J=>r = .bool true/\I=J):=by
 refine Ce0 Tryz.func11 C C ?_
 refine Af<|Ga C<|Ac<|Af<|Gr (Bp (cells:=[_,_,_,_,_,_,_]) ty54 Dh pl54 C C)<|Gr (Bp (cells:=[_,_,_,_,_,_,_]) ty54 Dh pl54 C C)<|Gr (Bp (cells:=[_,_,_,_,_,_,_]) ty54 Dh pl54 C C)<|Ge1 (Cf (α:=Ev) (cs:=[e7 1,e7 1,e7 0,e7 1,e7 1,e7 0,e7 1,e7 1,e7 2,e7 1,e7 2,e7 1,e7 0,e7 1,e7 1,e7 3,e7 0,e7 2,e7 1,e7 0,e7 1]) (xs:=[⟨1,1,0,1,1,0,1⟩,⟨1,2,1,2,1,0,1⟩,⟨1,3,0,2,1,0,1⟩]) A0 ty54 C C dc dc C kr C C) λM=>?_
 refine Ga C<|Ac<|Af<|Gr (Bp (cells:=[_,_,_]) ty29 Ey pl29 C C)<|Gm C<|G.e (Ak c_ C C<|KRun_ok (T:=I) (evs:=evs41) (by repeat (first|exact Ci _|apply Ch|apply Has.app)) Bf dc dc dc evs41_fit dc<|Bm hT Ay) ?_
 rintro _ _ ⟨_,_,⟨Z,Y3,rfl,ak,rfl⟩,rfl,rfl⟩
 refine Eh (J:=vc 54 (.slice M 3 3) (evs41)::(Y3++I)) (C2<|Dl (A:=Y3) (L:=[vc 54 (.slice M 3 3) evs41]) (T:=I)) ?_
 refine Gm C<|Gr (Am C C)<|Gr (Am C C)<|Gr (Am C C)<|Ge1 (A3 ty47 C) λb4=>Ge0 (Eff.sq ty47) ?_
 refine Ga C<|Ga C<|Ac<|Ao (S4 4 3 2 1 C C C C)<|Af<|Gr (Bp (cells:=[_,_,_]) ty29 Ey pl29 C C)<|Gm C<|G.e (Ak c_ C C<|KRun_ok (T:=(Y3++I)) (evs:=evs41) (by repeat (first|exact Ci _|apply Ch|apply Has.app)) Bf dc dc dc evs41_fit dc<|Bm hT Ay) ?_
 rintro _ _ ⟨_,_,⟨ao,Y6,rfl,ab,rfl⟩,rfl,rfl⟩
 refine Eh (J:=e8 b4 (kx 2 2 0 0 3 ((EnS.run 2 2 0 0 evs41)) Z) 47::vc 54 (.slice M 3 3) (evs41)::(Y6++(Y3++I))) (C2<|Dl (A:=Y6) (L:=[e8 b4 (kx 2 2 0 0 3 ((EnS.run 2 2 0 0 evs41)) Z) 47,vc 54 (.slice M 3 3) evs41]) (T:=(Y3++I))) ?_
 refine Gm C<|Gr (Am C C)<|Gr (Am C C)<|Gr (Am C C)<|Ge1 (A3 ty47 C) λb7=>Ge0 (Eff.sq ty47) ?_
 refine Ga C<|Ga C<|Ac<|Ao (S5 7 5 4 3 2 C C C C C)<|Af<|Gm C<|Gr (Bw C C)<|Gm C<|Bt (d:=28) C (λai=>?_)<|λai=>?_
 ·refine e9 (Ai C) (e9 (Bw C C)<|Gr (Ba C C)<|Gm C<|Bt (d:=32) C (λaj=>?_)<|λaj=>?_)
  ·refine e9 (Ad fld47_2 C) (e9 (Ad fld35_1 C)<|e9 (Bb ty33) ?_)
   refine e9 (Bh A9 C)<|e9 (Bw C C)<|Gr (Ba C C)<|Gm C<|Bt (d:=39) C (λaa=>?_)<|λaa=>?_
   ·refine e9 (Ad fld47_5 C) (e9 (Ad fld43_1 C)<|e9 (Bb ef) ?_)
    refine e9 (Bw C C)<|Gr (Ba C C)<|Gm C<|Bt (d:=45) C (λah=>?_)<|λah=>?_
    ·refine e9 (Ai C) (e9 (Bw C C)<|Gr (Ba C C)<|Gm C<|Bt (d:=49) C (λad=>?_)<|λad=>?_)
     ·refine e9 (Ad fld47_5 C) (e9 (Ad fld43_1 C)<|e9 (Bb ef) ?_)
      refine e9 (Bw C C)<|Gr (Ba C C)<|Gm C<|Bt (d:=55) C (λae=>?_)<|λae=>?_
      ·refine e9 (Ad fld47_3 C) (e9 (Ad fld40_1 C)<|e9 (Bb ty22) ?_)
       refine Ew (C5 C C C) (Cf (α:=Int) (cs:=[_,_,_]) (xs:=[2,2,2]) Ab ef C C dc dc C C C C) ?_
       rintro _ _ ⟨an,rfl,rfl⟩
       refine Ew (C5 C C C) (Ak c_ C C<|Cmp_ok (KpF.fit ab<|Db (κ:=κ)<|by repeat (first|exact Ci _|apply Ch|apply Has.app)).p.n1 Bf) ?_
       rintro _ _ ⟨_,_,⟨rfl,rfl⟩,rfl,rfl⟩
       exact e9 (Bw C C)<|Gr (Ba C C)<|Ga C<|Ac<|Ao (S1 0 C)<|Az<|A1 C C I (by first|exact Ay|exact FitW) ⟨rfl,rfl⟩
      exact absurd (show triS 3 (edgesK (EnS.run 1 0 0 0 evs41).S) / 3=1 by rw [evs41_all];decide+kernel) ae
     exact absurd rfl ad
    exact absurd (show triS 3 (edgesK (EnS.run 2 2 0 0 evs41).S) / 3=0 by rw [evs41_age];decide+kernel) ah
   exact absurd (show (((EnS.run 2 2 0 0 evs41).S.length:Nat):Int)=2 by rw [evs41_age];rfl) aa
  exact absurd (show ((BfS.lates 0 ⟨-1, -1,[]⟩ evs41:Nat):Int)=0 by rw [evs41_lates];rfl) aj
 exact absurd rfl ai
variable {κ:Ctx}{I:List Item}
theorem mix_next{tt:Int}{out:List Ev}{e:Ev}(h:∀e∈out,FitOk n e/\e.tm<=60)(Z:FitOk n e)(ht:e.tm=tt)(M:tt<=60):∀a∈out++[e],FitOk n a/\a.tm<=60:=λa ha=>by
 rcases List.mem_append.1 ha with ha|ha
 ·exact h a ha
 rw [List.mem_singleton.1 ha];exact ⟨Z,by omega⟩
theorem MkMixed_base{i:Int}(hl:∀q,Sl κ (deck b lv q::I) lv ls)(h0:0<=i)(hn:2<=n/\n<=64)(hm:0<=most/\most<=20):eu prog κ 16 [(pt b),e7 n,e7 most] (e8 b [lv,e7 i] 85::I) (λr J=>∃y:(Option Addr)×Nat×(List Ev)×Int,((r = .slice y.1 y.2.2.1.length y.2.1/\((∀e∈y.2.2.1,FitOk n e/\e.tm<=60)/\(y.2.2.1.length:Int)<=most))/\0<=y.2.2.2)/\J=[vk 54 y.1 y.2.1 y.2.2.1]++deck b lv y.2.2.2::I):=by
 refine Ce3 Tryz.func16 C C ?_
 refine Af<|Ga C<|Ac<|Af<|Ga C<|Ac<|Af<|Ga C<|Ac<|Aq<|Af<|Gm C<|Gm C<|Gr (Rad C C)<|G.e (Ak c_ C C<|Next_ok (by repeat (first|exact AtF.head _ _|apply AtF.tail)) (Bz (hl _) Ay) om om) ?_
 rintro _ _ ⟨_,_,⟨x1,i2,rfl,ay,aw,rfl⟩,rfl,rfl⟩
 refine Ga C<|Ac<|Aw<|Bu (σ:=Int×Int×(Option Addr)×Nat×(List Ev)×Int) (λs=>([(0,pt b),(1,e7 n),(7,.slice s.2.2.1 s.2.2.2.2.1.length s.2.2.2.1),(8,e7<|s.2.2.2.2.2),(9,e7<|s.1)]:Env)) (λs=>vk 54 s.2.2.1 s.2.2.2.1 s.2.2.2.2.1::e8 b [lv,e7<|s.2.1] 85::I) (λs=>(0<=s.1/\(s.2.2.2.2.1.length:Int)+s.1<=most)/\(0<=s.2.1)/\(∀e∈s.2.2.2.2.1,FitOk n e/\e.tm<=60)/\(5<=s.2.2.2.2.2/\s.2.2.2.2.2<=5+2*(s.2.2.2.2.1.length:Int))) (λs=>s.1.toNat) (x1,i2,none,0,[],5) ⟨(by simp only [List.length_nil];omega),om,(λe he=>by cases he),(by simp only [List.length_nil];omega)⟩ (Aa C<|Aa C<|Aa (Cx C<|by first|rfl|simp)<|Aa B2<|Aa B2 Bi) (Cb _ _) ?_
 rintro ⟨kq,ab,a1,c1,out,tt⟩ hp
 dsimp only at hp ⊢
 obtain ⟨a0,aq,hE,az⟩:=hp
 refine Aq<|Af<|Gm C<|Gr (Cc C C)<|Gm C<|Bt (d:=16) C (λao=>?_)<|λao=>?_
 ·refine e9 (Ai C) (e9 (Cc C C)<|Gr (Ba C C)<|Ac<|A5 C (λan=>?_)<|λan=>?_)
  ·refine Av (Ah<|Aq<|Aw<|Af<|Gm C<|Gm C<|Gm C<|Gm C<|Gm C<|G.e (Ak c_ C C<|Next_ok (by repeat (first|exact AtF.head _ _|apply AtF.tail)) (Bz (hl _) Ay) om om) ?_)
   rintro _ _ ⟨_,_,⟨x3,i4,rfl,ax,av,rfl⟩,rfl,rfl⟩
   refine Gr (Rsu C C)<|Gr (Dq C C) ?_
   have ae:(if 0<(tt - x3) then (tt - x3) else 0)=max 0 ((tt - x3)):=by split<;>omega
   rw [ae]
   refine G.e (Ak c_ C C<|MkEvent_at (by repeat (first|exact AtF.head _ _|apply AtF.tail)) (λ_=>Bz (hl _) Ay) om  om om) ?_
   rintro _ _ ⟨_,_,⟨⟨Z,i6⟩,⟨⟨rfl,M,aa⟩,ad⟩,rfl⟩,rfl,rfl⟩
   have ad:0<=i6:=ad
   dsimp only at M
   dsimp only at aa
   refine Ge1 (Cf (α:=Ev) (cs:=(ez Z)) (xs:=[⟨Z.kd,Z.tm,Z.u,Z.v,Z.w,Z.lb,Z.sg⟩]) A0 ty54 C C dc dc C kr C C) λau=>?_
   refine Ge2 (Cg (α:=Ev) (e:=54) (xs:=out) (ys:=([Z]:List Ev)) A0 ty54 C C C mm Bf lcn dc C<|λ_ _=>am) λaj ai=>?_
   refine Ga C<|Ac<|Ao (S5 7 0 1 8 9 C C C C C)<|Ar<|Gm C<|Gm C<|G.e (Ak c_ C C<|Next_ok (by repeat (first|exact AtF.head _ _|apply AtF.tail)) (Bz (hl _) Ay) om om) ?_
   rintro _ _ ⟨_,_,⟨ah,ak,rfl,ar,ap,rfl⟩,rfl,rfl⟩
   exact Gr (Rad C C)<|Ga C<|Bj<|Aj<|Ah<|Ar<|Gm C<|Gr (Rsu C C)<|Ga C<|Bj<|B3 ((kq - 1),(ak),(aj),(ai),(out++([Z]:List Ev)),(tt+ah))<|by dsimp only;exact ⟨lap,om,(by first|exact mix_next hE asm asm om),lap⟩
  exact absurd hn.1 om
 exact eb<|eb<|Gr (A6 C C)<|Ac<|Dp C<|Bs<|Al<|Al<|A2<|Ah<|Af<|Gm C<|Ga C<|Ac<|Ao (S1 6 C)<|Az<|A1 C C (vk 54 a1 c1 out::e8 b [lv,e7 ab] 85::I) Bc ⟨(a1,c1,out,ab),⟨⟨rfl,⟨hE,by show (out.length:Int)<=most;omega⟩⟩,by show 0<=ab;omega⟩,rfl⟩
theorem MkMixed_at{F:Item->List Item}{i:Int}(M:AtF I (deck b lv i) F)(hl:∀q,Sl κ (F (deck b lv q)) lv ls)(h0:0<=i)(hn:2<=n/\n<=64)(hm:0<=most/\most<=20):eu prog κ 16 [(pt b),e7 n,e7 most] I λr J=>∃y:(Option Addr)×Nat×(List Ev)×Int,((r = .slice y.1 y.2.2.1.length y.2.1/\((∀e∈y.2.2.1,FitOk n e/\e.tm<=60)/\(y.2.2.1.length:Int)<=most))/\0<=y.2.2.2)/\J=[vk 54 y.1 y.2.1 y.2.2.1]++F (deck b lv y.2.2.2):=
 eu.at (Post:=λr (y:(Option Addr)×Nat×(List Ev)×Int)=>(r = .slice y.1 y.2.2.1.length y.2.1/\((∀e∈y.2.2.1,FitOk n e/\e.tm<=60)/\(y.2.2.1.length:Int)<=most))/\0<=y.2.2.2) (Z:=λy:(Option Addr)×Nat×(List Ev)×Int=>[vk 54 y.1 y.2.1 y.2.2.1]) (X:=λy:(Option Addr)×Nat×(List Ev)×Int=>deck b lv y.2.2.2) M λJ _ hF=>MkMixed_base (λq=>(hl q).fit (hF _)) h0  hn hm
end Go.Sl
