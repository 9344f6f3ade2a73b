/- A part of the proofs of statements of this seat: contracts of functions, and the plain laws that they lean on. No conditions. -/
import Derived.Test.YtoagcglbkeomgaaGreatDoorS29
import Derived.ProofKit
import Derived.OpenShut
import Derived.ChangeOld
import Derived.Below
import Derived.SizedLaws
import Derived.JoinedOf
import Derived.Deep.Slices
import Derived.Deep.Fields
set_option linter.unusedVariables false
set_option linter.unusedSimpArgs false
set_option linter.unusedSectionVars false
namespace Go.Sl
open Go.Proofs
set_option maxRecDepth 4000
section
variable {nd kd wd mo bd:Int}{evs:List Ev}
theorem runB_fit(Z:∀e∈evs,FitOk nd e):∀e∈runB bd evs,FitOk nd e:=λe M=>Z e (mem_runB M)
theorem runB_st(M:0<=nd/\nd<=64)(hb:0<=bd/\bd<=1048576)(Z:∀e∈evs,FitOk nd e)(hs:evs.length<=4000):StOk nd (runB bd evs):=by
 have ha:=runB_asc hb (l:=evs) λe he=>⟨(Z e he).chk,(Z e he).tm.2⟩
 have aa:=runB_len bd evs
 refine ⟨M,by omega,λj hj=>runB_fit Z _<|B7 om om,λj hj=>?_⟩
 unfold lastT
 split
 ·exact (runB_fit Z _<|B7 (xs:=runB bd evs) (i:=(j:Int)) om om).tm.1
 exact asc_prev ha om hj
theorem slides_law(aa:0<=nd/\nd<=64)(hw:checkW kd wd mo=0)(hb:0<=bd/\bd<=1048576)(M:∀e∈evs,FitOk nd e){k:EnS}(hk:k=(⟨⟨-1, -1,[]⟩,[],0⟩:EnS).all kd wd mo bd evs) :
  EnS.outs kd wd mo bd (⟨⟨-1, -1,[]⟩,[],0⟩:EnS) evs++k.xout kd wd mo=(slideS kd wd mo<|runB bd evs).2/\(k.flush kd wd mo).S=(slideS kd wd mo<|runB bd evs).2.foldl ep []/\(∀e∈(slideS kd wd mo<|runB bd evs).2,FitOk nd e):=by
 obtain ⟨h1,h2⟩:=all_rel (kd:=kd) (wd:=wd) (mo:=mo) (bd:=bd) evs (⟨⟨-1, -1,[]⟩,[],0⟩:EnS)
 have hs:slideS kd wd mo (runB bd evs)=relE kd wd mo [] (BfS.outs bd ⟨-1, -1,[]⟩ evs++(BfS.all bd ⟨-1, -1,[]⟩ evs).ws):=slide_rel _
 have ha:=runB_asc hb (l:=evs) λe Z=>⟨(M e Z).chk,(M e Z).tm.2⟩
 obtain ⟨r1,r2,r3,r4,r5,r6,r7⟩:=rel_ok (nd:=nd) hw (runB bd evs) [] 0 (SlI.nil aa) dc (λh=>by
  rcases checkW_cases hw with ⟨rfl,_⟩|⟨rfl,_⟩|⟨_,_,hm⟩
  ·cases h
  ·cases h
  show ((0:Nat):Int)<=mo;omega) (λe Z=>⟨runB_fit M e Z,(runB_fit M e Z).tm.1⟩) ha
 refine ⟨?_,?_,?_⟩
 ·rw [h2,hs,relE_app,hk,h1];rfl
 ·rw [slide_rel,←r2,hk,h1]
  show (relE kd wd mo (relE kd wd mo [] _).1 _).1=_
  unfold runB
  rw [relE_app];rfl
 rw [slide_rel];exact r3
theorem relE_len(hw:checkW kd wd mo=0):∀(l:List Ev) (S:List Lk) (last:Int),SlI nd kd wd last S->0<=last->(∀e∈l,FitOk nd e/\last<=e.tm)->l.Pairwise (λa b=>a.tm<=b.tm)->(relE kd wd mo S l).2.length<=5000*l.length
 |[],S,last,h,h0,_,_=>by show 0<=_;omega
 |e::l,S,last,h,h0,hl,ha=>by
  obtain ⟨he,aa⟩:=hl e List.mem_cons_self
  obtain ⟨Z,M⟩:=List.pairwise_cons.1 ha
  have hs:=step_ok h h0 aa he hw
  have ih:=relE_len hw l (evStep kd wd mo (S,[]) e).1 e.tm hs.inv om (λx hx=>⟨(hl x<|List.mem_cons_of_mem _ hx).1,Z x hx⟩) M
  have e1:relE kd wd mo S (e::l)=((relE kd wd mo (evStep kd wd mo (S,[]) e).1 l).1,(evStep kd wd mo (S,[]) e).2++(relE kd wd mo (evStep kd wd mo (S,[]) e).1 l).2):=relE_app S [e] l
  have hb:=edges_le (edgesK_ok h.val)
  rw [edgesK_len] at hb
  have:=hs.len.2
  rw [e1,List.length_append,List.length_cons];omega
theorem fout_len{k:EnS}{e:Ev}(h:EnOk nd kd wd mo bd k)(Z:FitOk nd e)(ht:k.b.mr<e.tm):(k.fout kd wd mo bd e).length<=5000*(k.b.ws.length+1):=by
 obtain ⟨h1,M⟩:=feed_evs h Z ht
 have h3:=relE_len h.win _ k.S k.tm h.inv h.tm.1 M h1
 have h4:=out_len k.b bd e
 unfold EnS.fout
 omega
theorem xout_len{k:EnS}(h:EnOk nd kd wd mo bd k):(k.xout kd wd mo).length<=5000*k.b.ws.length:=by
 obtain ⟨M,Z⟩:=flush_evs h
 exact relE_len h.win _ k.S k.tm h.inv h.tm.1 Z M
theorem outs_take{k0 k:EnS}{e:Ev}{i:Nat}(hk:k=k0.all kd wd mo bd (evs.take i))(hi:i<evs.length)(M:e_ evs i=e):EnS.outs kd wd mo bd k0 (evs.take (i+1))=EnS.outs kd wd mo bd k0 (evs.take i)++k.nout kd wd mo bd e:=by
 have Z:∀(l:List Ev) (k0:EnS) (e:Ev),EnS.outs kd wd mo bd k0 (l++[e])=EnS.outs kd wd mo bd k0 l++(k0.all kd wd mo bd l).nout kd wd mo bd e:=by
  intro l
  induction l with
  |nil=>intro k0 e;show _++[]=_;rw [List.append_nil];rfl
  |cons x l ih=>
   intro k0 e
   show k0.nout kd wd mo bd x++EnS.outs kd wd mo bd (k0.next kd wd mo bd x) (l++[e])=(k0.nout kd wd mo bd x++EnS.outs kd wd mo bd (k0.next kd wd mo bd x) l)++_
   rw [ih,List.append_assoc];rfl
 rw [Cj evs i hi,Z,←hk,M]
end
set_option maxHeartbeats 8000000 in
theorem EngineSlides_walk{κ:Ctx}{I:List Item}{la:Option Addr}{ln lc:Nat}{ls:List Int}(hl:Sl κ I (.slice la ln lc) ls)(m0:Int)(b7:0<=m0/\m0<256)(hT:TabRd κ I 0 tzCells):eu Tryz.prog κ 4 [.slice la ln lc,.int .u8 m0] I (λr J=>r = .bool true/\I=J):=by
 have ch:0<=Int.tmod m0 6/\Int.tmod m0 6<6:=by rw [Int.tmod_eq_emod_of_nonneg b7.1];omega
 refine Ce2 Tryz.func4 C C ?_
 refine Ad<|Ga C<|Ac<|Ar<|Ad<|Gm C<|Gc0 (Aj c_ C C Few_ok) ?_
 refine Gr (Dc C)<|Ac<|A7 C (λb9=>?_)<|λb9=>?_
 ·refine Ad (G.e (Aj c_ C C<|Awake41_ok<|Bn hT Ax) ?_)
  rintro _ _ ⟨_,_,⟨rfl,rfl⟩,rfl,rfl⟩
  exact Ga C<|Ac<|Az<|Ao<|A1 C C I (by first|exact Ax|exact FitW) ⟨rfl,rfl⟩
 refine Aw<|Ah<|Ad<|Gm C<|G.e (Aj c_ C C New_ok) ?_
 rintro _ _ ⟨_,_,⟨aq,rfl,rfl⟩,rfl,rfl⟩
 have cn:(0:Int)<=0:=Int.le_refl _
 refine Ga C<|Ac<|Ad<|Gm C<|G.e (Aj c_ C C<|Next_ok (by repeat (first|exact AtF.head _ _|apply AtF.tail)) (A8 hl) om om) ?_
 rintro _ _ ⟨_,_,⟨x2,i3,rfl,cm,hi3,rfl⟩,rfl,rfl⟩
 refine Gr (Rad C C)<|Gm C<|Gr (Runs.rem C C om)<|Gr (Runs.convI Eo Ci C<|by unfold InR;omega)<|Ga C<|Ga C<|Ac<|Ap (S3 7 6 5)<|Ad<|Gm C<|G.e (Aj c_ C C<|MkWindowV_at (by repeat (first|exact AtF.head _ _|apply AtF.tail)) (λ_=>Bu hl Ax) om  ) ?_
 rintro _ _ ⟨_,_,⟨⟨M,aa,Z,i7⟩,⟨⟨rfl,ak⟩,bo⟩,rfl⟩,rfl,rfl⟩
 have bo:0<=i7:=bo
 refine Ge1 (A4 ty29 C) λb8=>Ge0 (Df ty29) ?_
 refine Ac<|Ad<|Gm C<|Gm C<|G.e (Aj c_ C C<|MkMixed_at (by repeat (first|exact AtF.head _ _|apply AtF.tail)) (λ_=>Bu hl Ax) om  om om) ?_
 rintro _ _ ⟨_,_,⟨⟨an,aj,ab,ao⟩,⟨⟨rfl,ai⟩,bf⟩,rfl⟩,rfl,rfl⟩
 have bf:0<=ao:=bf
 dsimp only at ai
 refine Ga C ?_
 have ak:checkW M aa Z=0:=ak
 refine Ac<|Ad<|Gm C<|Gm C<|Gl3 ty29 ?_
 refine G.e (Aj c_ C C<|KOpen_ok (nd:=2+x2) (bd:=Int.tmod m0 6) I om ak om<|Bn hT Ax) ?_
 rintro _ _ ⟨_,_,⟨bn,Y14,rfl,bm,rfl⟩,rfl,rfl⟩
 refine D9 (J:=vk 54 an aj ab::e8 b8 [e7 M,e7 aa,e7 Z] 29::e8 aq [.slice la ln lc,e7 ao] 85::(Y14++I)) (C4<|Dk (A:=Y14) (L:=[vk 54 an aj ab,e8 b8 [e7 M,e7 aa,e7 Z] 29,e8 aq [.slice la ln lc,e7 ao] 85]) (T:=I)) ?_
 refine Gm C<|Gr (Ak C C)<|Gr (Ak C C)<|Ge1 (A4 ty47 C) λar=>Ge0 (Eff.sq ty47) ?_
 refine Ga C<|Ac<|Ap (S6 11 10 9 8 7 6)<|Ad<|Ga C<|Ac<|Ad<|Ga C<|Ac<|Ar<|Ad<|Gm C<|Gr (Bk Al C)<|Gm C<|Ac<|A5<|B1 (σ:=Nat×EnS×KpV×(List Item)×Nat×(Option Addr)×Nat×(List Ev)) (λs=>([(6,e7<|2+x2),(7,e7<|Int.tmod m0 6),(8,pt b8),(9,.slice an ab.length aj),(10,pt ar),(11,e7 0),(12,.slice s.2.2.2.2.2.1 s.2.2.2.2.2.2.2.length s.2.2.2.2.2.2.1),(13,e7 ((s.2.2.2.2.1:Nat):Int)),(56,.slice an ab.length aj),(57,e7 ((ab.length:Nat):Int)),(58,e7 ((s.1:Nat):Int))]:Env)) (λs=>vk 54 s.2.2.2.2.2.1 s.2.2.2.2.2.2.1 s.2.2.2.2.2.2.2::e8 ar (kx M aa Z (Int.tmod m0 6) (2+x2) s.2.1 s.2.2.1) 47::vk 54 an aj ab::e8 b8 [e7 M,e7 aa,e7 Z] 29::e8 aq [.slice la ln lc,e7 ao] 85::(s.2.2.2.1++I)) (λs=>(s.1<=ab.length)/\(s.2.1=(⟨⟨-1, -1,[]⟩,[],0⟩:EnS).all M aa Z (Int.tmod m0 6) (ab.take s.1))/\(s.2.2.2.2.1=BfS.lates (Int.tmod m0 6) ⟨-1, -1,[]⟩ (ab.take s.1))/\(s.2.2.2.2.2.2.2=EnS.outs M aa Z (Int.tmod m0 6) (⟨⟨-1, -1,[]⟩,[],0⟩:EnS) (ab.take s.1))/\(EnOk (2+x2) M aa Z (Int.tmod m0 6) s.2.1)/\(KpF κ (s.2.2.2.1++I) (2+x2) s.2.1 s.2.2.1)/\(s.2.1.b.ws.length<=s.1/\s.2.2.2.2.2.2.2.length<=100000*s.1)) (λs=>ab.length - s.1) (0,(⟨⟨-1, -1,[]⟩,[],0⟩:EnS),bn,Y14,0,none,0,[]) ⟨om,rfl,rfl,rfl,(EnOk.open_ om ak om),bm,(by show (0:Nat)<=0/\(0:Nat)<=100000*0;omega)⟩ (cx4<|cx2<|Aa (C8 C<|by first|rfl|simp)<|Aa Cd<|cx2<|Aa Cd Bp) (Co (show Fit κ _ _ from Bl)<|Cf (α:=Ev) _ _) ?_
 rintro ⟨i,k,v,Y,n,oa,oc,o⟩ hp
 dsimp only at hp ⊢
 obtain ⟨hi,hk,hn,ho,hK,hF,ci⟩:=hp
 have co:n<=i:=by rw [hn];exact Nat.le_trans (lates_len _ _ _) (by rw [List.length_take];omega)
 refine Ad<|Gr (A9 C C)<|Ac<|Ar<|A7 C (λb3=>?_)<|λb3=>?_
 ·refine Aw (Ah<|Ar<|A5<|Ad<|Gr (A3 (α:=Ev) (xs:=ab) Al ty54 C C Bi om om)<|Gr (Bv (α:=Ev) (xs:=ab) ty54 C Bi om om) ?_)
  have au:=(ai.1 _<|B7 (xs:=ab) (i:=(i:Int)) om om).1
  generalize hxe:e_ ab i=xe at au ⊢
  refine Ge1 (A4 ty54 C) λbj=>Ge0 (E8 ty54) ?_
  refine Ac<|Ap (S12 15 6 7 8 9 10 11 12 13 56 57 58)<|Ad<|Gr (Runs.lq ty47) ?_
  refine Gl7 ty54 ?_
  refine G.e (Aj c_ C C<|FeedA_ok (T:=(Y++I)) (k:=k) (v:=v) (by repeat (first|exact hH|exact B0 _|apply Bz|apply Cl|apply Ca)) hF hK om au<|Bn hT Ax) ?_
  rintro _ _ ⟨_,_,(⟨ah,rfl,rfl⟩|⟨ah,ae,Y18,bv,br,rfl,a5,a8,rfl⟩),rfl,rfl⟩
  ·skip
   refine Gm C<|Gr (Ak C C)<|Gr (Ak C C)<|Gr (Ak C C)<|Ge1 (A4 ty47 C) λcg=>Ge0 (Eff.sq ty47) ?_
   refine Ga C<|Ga C<|Ac<|Ap (S14 18 17 16 6 7 8 9 10 11 12 13 56 57 58)<|Ar<|Ad<|Gm C<|Gr (Br C C)<|Ac<|Ap (S15 70 18 17 16 6 7 8 9 10 11 12 13 56 57 58 C C C C C C C C C C C C C C C)<|A7 C (λa1=>?_)<|λa1=>?_
   ·refine Ad (Gm C<|Gr (Rad C C)<|Ga C<|Ac<|Ap (S11 13 6 7 8 9 10 11 12 56 57 58)<|Bt<|Aq<|Bb<|Ah<|Ay<|Gr (Rad C C)<|Gm C<|Bj ?_)
    have ap:=outs_take hk om hxe
    unfold EnS.nout at ap
    rw [if_pos ah,List.append_nil] at ap
    exact Cb ((i+1),(k),(v),(Y),(n+1),(oa),(oc),(o))<|by dsimp only;exact ⟨om,(run_late hk om hxe ah),(by rw [run_cnt (k0:=(⟨⟨-1, -1,[]⟩,[],0⟩:EnS)) hk om hxe,if_pos ah,hn]),(by rw [ap];exact ho),hK,hF,om⟩
   exact absurd dc a1
  refine D9 (J:=e8 bj (ez xe) 54::vk 54 oa oc o::e8 ar (kx M aa Z (Int.tmod m0 6) (2+x2) k v) 47::vk 54 an aj ab::e8 b8 [e7 M,e7 aa,e7 Z] 29::e8 aq [.slice la ln lc,e7 ao] 85::(Y18++(Y++I))) (C4<|Dk (A:=Y18) (L:=[e8 bj (ez xe) 54,vk 54 oa oc o,e8 ar (kx M aa Z (Int.tmod m0 6) (2+x2) k v) 47,vk 54 an aj ab,e8 b8 [e7 M,e7 aa,e7 Z] 29,e8 aq [.slice la ln lc,e7 ao] 85]) (T:=(Y++I))) ?_
  refine Gm C<|Gr (Ak C C)<|Gr (Ak C C)<|Gr (Ak C C)<|Ge1 (A4 ty47 C) λb6=>Ge0 (Eff.sq ty47) ?_
  refine Ga C<|Ga C<|Ac<|Ap (S14 18 17 16 6 7 8 9 10 11 12 13 56 57 58)<|Ar<|Ad<|Gm C<|Gr (Br C C)<|Ac<|Ap (S15 70 18 17 16 6 7 8 9 10 11 12 13 56 57 58 C C C C C C C C C C C C C C C)<|A7 C (λa1=>?_)<|λa1=>?_
  ·exact absurd a1 dc
  refine Aw<|Ah<|Ap (S14 18 17 16 6 7 8 9 10 11 12 13 56 57 58)<|Ar<|Ad<|Gm C<|Gr (Be C C)<|Ac<|Ap (S14 74 17 16 6 7 8 9 10 11 12 13 56 57 58)<|A7 C (λbz=>?_)<|λbz=>?_
  ·exact absurd bz dc
  refine Aw<|Ah<|Ap (S13 17 16 6 7 8 9 10 11 12 13 56 57 58)<|Bs mixed<|Cc (e8 b6 (kx M aa Z (Int.tmod m0 6) (2+x2) ((k.feed M aa Z (Int.tmod m0 6) xe)) ae) 47::e8 bj (ez xe) 54::vk 54 an aj ab::e8 b8 [e7 M,e7 aa,e7 Z] 29::e8 aq [.slice la ln lc,e7 ao] 85::(Y18++(Y++I))) 4<|Dr 0 C (Runs.lq ty47) ?_
  refine Do (rs:=[1,2]) kr C C<|Eu ?_<|D6 ?_
  ·refine Sr C (Ai C) Bl ?_
   refine Ds1 2<|Sr C (Ai C) Bl ?_
   refine Ds1 3<|Se2 C (B3 (α:=Ev) (e:=54) (xs:=o) (ys:=(k.fout M aa Z (Int.tmod m0 6) xe)) Al ty54 C C C mm (Bu (show Sl κ (Y18++(Y++I)) (.slice bv ((k.fout M aa Z (Int.tmod m0 6) xe)).length br) (k.fout M aa Z (Int.tmod m0 6) xe) from Bu a8 (Cm (κ:=κ)<|by repeat (first|exact hH|exact B0 _|apply Bz|apply Cl|apply Ca))) Ax) (by first|omega|(have a9:=fout_len hK au om;omega)) dc C<|λ_ _=>am) λbw bu=>?_
   refine Cs kr ?_
   refine Ae 4 C (Eff.sq ty47) ?_
   rintro _ _ ⟨rfl,rfl⟩
   refine Dv (i:=5) kr C (Bm C) C C (Bf C) ?_
   refine Ct kr ?_
   refine Am<|Ah<|Ap (S11 12 6 7 8 9 10 11 13 56 57 58)<|Ay<|Gr (Rad C C)<|Gm C<|Bj ?_
   have ap:=outs_take hk om hxe
   unfold EnS.nout at ap
   rw [if_neg om] at ap
   have a9:=fout_len hK au ah
   have h9:=feed_wlen (kd:=M) (wd:=aa) (mo:=Z) (bd:=(Int.tmod m0 6)) k xe
   exact Cb ((i+1),((k.feed M aa Z (Int.tmod m0 6) xe)),(ae),((Y18++Y)),(n),(bw),(bu),(o++(k.fout M aa Z (Int.tmod m0 6) xe))) (by dsimp only;exact ⟨om,(run_feed hk om hxe ah),(by rw [run_cnt (k0:=(⟨⟨-1, -1,[]⟩,[],0⟩:EnS)) hk om hxe,if_neg om,hn];rfl),(by rw [ap,←ho]),(hK.feed au ah),(by rw [List.append_assoc];exact a5),(by rw [List.length_append];omega)⟩) (hI:=by (try dsimp only);exact (by rw [List.append_assoc];exact Bl))
  refine Sr C (Ai C) Bl ?_
  refine Ds1 1<|Sr C (Ai C) Bl ?_
  refine Ds1 3<|Se2 C (B3 (α:=Ev) (e:=54) (xs:=o) (ys:=(k.fout M aa Z (Int.tmod m0 6) xe)) Al ty54 C C C mm (Bu (Bu a8<|Cm (κ:=κ)<|by repeat (first|exact hH|exact B0 _|apply Bz|apply Cl|apply Ca)) Ax) (by first|omega|(have a9:=fout_len hK au om;omega)) dc C<|λ_ _=>am) λbx bt=>?_
  refine Cs kr ?_
  refine Ae 4 C (Eff.sq ty47) ?_
  rintro _ _ ⟨rfl,rfl⟩
  refine Dv (i:=5) kr C (Bm C) C C (Bf C) ?_
  refine Ct kr ?_
  refine Am<|Ah<|Ap (S11 12 6 7 8 9 10 11 13 56 57 58)<|Ay<|Gr (Rad C C)<|Gm C<|Bj ?_
  have ap:=outs_take hk om hxe
  unfold EnS.nout at ap
  rw [if_neg om] at ap
  have a9:=fout_len hK au ah
  have h9:=feed_wlen (kd:=M) (wd:=aa) (mo:=Z) (bd:=(Int.tmod m0 6)) k xe
  exact Cb ((i+1),((k.feed M aa Z (Int.tmod m0 6) xe)),(ae),((Y18++Y)),(n),(bx),(bt),(o++(k.fout M aa Z (Int.tmod m0 6) xe))) (by dsimp only;exact ⟨om,(run_feed hk om hxe ah),(by rw [run_cnt (k0:=(⟨⟨-1, -1,[]⟩,[],0⟩:EnS)) hk om hxe,if_neg om,hn];rfl),(by rw [ap,←ho]),(hK.feed au ah),(by rw [List.append_assoc];exact a5),(by rw [List.length_append];omega)⟩) (hI:=by (try dsimp only);exact (by rw [List.append_assoc];exact Bl))
 refine Bt<|Aq<|Aq<|Bb<|Ah<|Ad<|Gr (Runs.lq ty47) ?_
 rw [show ab.take i=ab from List.take_of_length_le om] at hk hn ho
 obtain ⟨bp,b5,b4⟩:=slides_law (nd:=(2+x2)) om ak om (λe he=>(ai.1 e he).1) hk
 have ck:=xout_len hK
 have cf:=HistOk.len2 (nd:=(2+x2)) (mo:=Z) ⟨runB_st (bd:=(Int.tmod m0 6)) (evs:=ab) om om (λe he=>(ai.1 e he).1) om,ak⟩
 have ce:=runB_len (Int.tmod m0 6) ab
 rw [←ho] at bp
 refine G.e (Aj c_ C C<|Flush_ok (T:=(Y++I)) (k:=k) (v:=v) (by repeat (first|exact hH|exact B0 _|apply Bz|apply Cl|apply Ca)) hF hK om<|Bn hT Ax) ?_
 rintro _ _ ⟨_,_,⟨ad,Y28,cc,cb,rfl,ay,bi,rfl⟩,rfl,rfl⟩
 refine D9 (J:=vk 54 oa oc o::e8 ar (kx M aa Z (Int.tmod m0 6) (2+x2) k v) 47::vk 54 an aj ab::e8 b8 [e7 M,e7 aa,e7 Z] 29::e8 aq [.slice la ln lc,e7 ao] 85::(Y28++(Y++I))) (C4<|Dk (A:=Y28) (L:=[vk 54 oa oc o,e8 ar (kx M aa Z (Int.tmod m0 6) (2+x2) k v) 47,vk 54 an aj ab,e8 b8 [e7 M,e7 aa,e7 Z] 29,e8 aq [.slice la ln lc,e7 ao] 85]) (T:=(Y++I))) ?_
 refine Gm C<|Gr (Ak C C)<|Gr (Ak C C)<|Gr (Ak C C)<|Ge0 (Eff.sq ty47) ?_
 refine Ga C<|Ga C<|Ac<|Ap (S10 20 19 6 7 8 9 10 11 12 13)<|Ad<|Gm C<|Gm C<|Ge2 (B3 (α:=Ev) (e:=54) (xs:=o) (ys:=(k.xout M aa Z)) Al ty54 C C C mm (Bu (Bu bi<|Cm (κ:=κ)<|by repeat (first|exact hH|exact B0 _|apply Bz|apply Cl|apply Ca)) Ax) (by first|omega|(have a9:=fout_len hK au om;omega)) dc C<|λ_ _=>am) λa7 a0=>?_
 refine Ga C<|Ac<|Ap (S9 12 20 6 7 8 9 10 11 13)<|Ad<|Gm C<|Gm C<|G.e (Aj c_ C C<|R6Sort_ok (bd:=Int.tmod m0 6) (evs:=ab) om Bi (λe he=>⟨(ai.1 e he).1.chk,(ai.1 e he).1.tm⟩) om) ?_
 rintro _ _ ⟨_,_,⟨a6,a3,rfl,rfl⟩,rfl,rfl⟩
 refine Gm C<|Gr (Ak C C)<|Gr (Ak C C)<|Gr (Ak C C)<|Ga C<|Ga C<|Ga C<|Ac<|Ap (S11 22 21 12 20 6 7 8 9 10 11 13)<|Ad<|Gm C<|Gm C<|Gl3 ty29 ?_
 refine G.e (Aj c_ C C<|Slide7_ok (nd:=(2+x2)) (kd:=M) (wd:=aa) (mo:=Z) (es:=runB (Int.tmod m0 6) ab) Bi) ?_
 rintro _ _ ⟨_,_,(⟨a4,rfl,rfl⟩|⟨ax,az,b2,rfl,rfl⟩),rfl,rfl⟩
 ·exact absurd (slideE_zeroH ⟨runB_st om om (λe he=>(ai.1 e he).1) om,ak⟩) a4
 skip
 refine Gm C<|Gr (Ak C C)<|Gr (Ak C C)<|Ga C<|Ga C<|Ac<|Ap (S11 24 22 12 20 6 7 8 9 10 11 13)<|Ad<|Gm C<|Gr (Bq (cells:=[_,_]) ty35 Fc pl35 C C)<|Gm C<|G.e (Aj c_ C C<|Cp (J:=vc 82 (.slice none 0 0) (([]:List Lk))::vk 54 ax az ((slideS M aa Z<|runB (Int.tmod m0 6) ab).2)::vk 54 a6 a3 (runB (Int.tmod m0 6) ab)::vk 54 a7 a0 (o++(k.xout M aa Z))::e8 ar (kx M aa Z (Int.tmod m0 6) (2+x2) ((k.flush M aa Z)) ad) 47::vk 54 an aj ab::e8 b8 [e7 M,e7 aa,e7 Z] 29::e8 aq [.slice la ln lc,e7 ao] 85::(Y28++(Y++I))) (Cf 82 _)<|All5_base (nd:=2+x2) (xs:=([]:List Lk)) (es:=(slideS M aa Z<|runB (Int.tmod m0 6) ab).2) Bi (valNil om) (λj hj=>b4 _<|B7 om om)<|by simp only [List.length_nil];omega) ?_
 rintro _ _ ⟨_,_,⟨⟨av,aw,cd⟩,rfl,rfl⟩,rfl,rfl⟩
 refine Gm C<|Gr (Ak C C)<|Gr (Ak C C)<|Gr (Ak C C)<|Ge1 (A4 ty35 C) λbq=>Ge0 (Cz ty35) ?_
 refine Ga C<|Ga C<|Ac<|Ap (S12 26 24 22 12 20 6 7 8 9 10 11 13)<|Ad<|Gm C<|Gm C<|Gl3 ty29 ?_
 refine Gm C<|G.e (Aj c_ C C<|KRun_ok (T:=(Y28++(Y++I))) (evs:=ab) (by repeat (first|exact B0 _|apply Bz|apply Ca)) Bi om ak om (λe he=>(ai.1 e he).1) om<|Bn hT Ax) ?_
 rintro _ _ ⟨_,_,⟨ca,Y42,rfl,bk,rfl⟩,rfl,rfl⟩
 refine D9 (J:=e8 bq [e7 (2+x2),.slice av (List.foldl ep ([]:List Lk)<|(slideS M aa Z<|runB (Int.tmod m0 6) ab).2).length aw] 35::vk 82 av aw (List.foldl ep ([]:List Lk)<|(slideS M aa Z<|runB (Int.tmod m0 6) ab).2)::vk 54 ax az ((slideS M aa Z<|runB (Int.tmod m0 6) ab).2)::vk 54 a6 a3 (runB (Int.tmod m0 6) ab)::vk 54 a7 a0 (o++(k.xout M aa Z))::e8 ar (kx M aa Z (Int.tmod m0 6) (2+x2) ((k.flush M aa Z)) ad) 47::vk 54 an aj ab::e8 b8 [e7 M,e7 aa,e7 Z] 29::e8 aq [.slice la ln lc,e7 ao] 85::(Y42++(Y28++(Y++I)))) (C4<|Dk (A:=Y42) (L:=[e8 bq [e7 (2+x2),.slice av (List.foldl ep ([]:List Lk)<|(slideS M aa Z<|runB (Int.tmod m0 6) ab).2).length aw] 35,vc 82 (.slice av (List.foldl ep ([]:List Lk)<|(slideS M aa Z<|runB (Int.tmod m0 6) ab).2).length aw)<|List.foldl ep ([]:List Lk)<|(slideS M aa Z<|runB (Int.tmod m0 6) ab).2,vc 54 (.slice ax ((slideS M aa Z<|runB (Int.tmod m0 6) ab).2).length az)<|(slideS M aa Z<|runB (Int.tmod m0 6) ab).2,vc 54 (.slice a6 (runB (Int.tmod m0 6) ab).length a3)<|runB (Int.tmod m0 6) ab,vc 54 (.slice a7 (o++(k.xout M aa Z)).length a0)<|o++(k.xout M aa Z),e8 ar (kx M aa Z (Int.tmod m0 6) (2+x2) ((k.flush M aa Z)) ad) 47,vk 54 an aj ab,e8 b8 [e7 M,e7 aa,e7 Z] 29,e8 aq [.slice la ln lc,e7 ao] 85]) (T:=(Y28++(Y++I)))) ?_
 refine Gm C<|Gr (Ak C C)<|Gr (Ak C C)<|Gr (Ak C C)<|Ge1 (A4 ty47 C) λcj=>Ge0 (Eff.sq ty47) ?_
 refine Ga C<|Ga C<|Ac<|Ap (S11 31 30 29 26 24 22 12 20 10 11 13)<|Ad<|Gm C<|Gr (Br C C)<|Gm C<|Bh (d:=122) C (λbe=>?_)<|λbe=>?_
 ·refine e9 (Ai C) (e9 (Br C C)<|Gr (Av C C)<|Gm C<|Bh (d:=126) C (λbg=>?_)<|λbg=>?_)
  ·refine e9 (Ai C) (e9 (Br C C)<|Gr (Av C C)<|Gm C<|Bh (d:=130) C (λbh=>?_)<|λbh=>?_)
   ·refine e9 (Ai C) (e9 (Ai C)<|e9 (Br C C)<|Gr (Av C C)<|Gm C<|Bh (d:=135) C (λbc=>?_)<|λbc=>?_)
    ·refine e9 (Ai C) (e9 (Ai C)<|e9 (Br C C)<|Gr (Av C C)<|Gm C<|Bh (d:=140) C (λbb=>?_)<|λbb=>?_)
     ·refine e9 (Ai C) (e9 (Ai C)<|Dx (Cq C C C) (Aj c_ C C<|SameE41_ok (xs:=o++(k.xout M aa Z)) (ys:=(slideS M aa Z<|runB (Int.tmod m0 6) ab).2) bp Bi Bi) ?_)
      rintro _ _ ⟨_,_,⟨rfl,rfl⟩,rfl,rfl⟩
      refine Gr (Av C C)<|Gm C<|e9 (Ab fld47_2 C)<|e9 (Bc (vs:=[_,_]) ty35) ?_
      refine e9 (Bc (vs:=[_,_]) ty35) ?_
      refine Dx (Cq C C C) (Aj c_ C C<|Same5_ok (KpF.fit ay<|Cm (κ:=κ)<|by repeat (first|exact B0 _|apply Bz|apply Ca)).l Bi) ?_
      rintro _ _ ⟨_,_,⟨rfl,rfl⟩,rfl,rfl⟩
      refine Gr (Av C C)<|Gm C<|Bh (d:=151) C (λba=>?_)<|λba=>?_
      ·refine e9 (Runs.lq ty47) ?_
       refine e9 (Runs.lq ty47) ?_
       refine Dx (Cq C C C) (Aj c_ C C<|SameK_ok (k:=(EnS.run M aa Z (Int.tmod m0 6) ab)) (k2:=(k.flush M aa Z)) (show EnS.run _ _ _ _ _=_ from by rw [hk];rfl) (KpF.fit bk<|Cm (κ:=κ)<|by repeat (first|exact B0 _|apply Bz|apply Ca))<|KpF.fit ay<|Cm (κ:=κ)<|by repeat (first|exact B0 _|apply Bz|apply Ca)) ?_
       rintro _ _ ⟨_,_,⟨rfl,rfl⟩,rfl,rfl⟩
       refine Gr (Av C C)<|Gm C<|Dx (Cq C C C) (Aj c_ C C<|Awake41_ok<|Bn hT Ax) ?_
       rintro _ _ ⟨_,_,⟨rfl,rfl⟩,rfl,rfl⟩
       exact Gr (Av C C)<|Ga C<|Ac<|Ap (S1 4)<|Az<|A1 C C I (by first|exact Ax|exact FitW) ⟨rfl,rfl⟩
      exact absurd ⟨rfl,b5⟩ ba
     exact absurd rfl bb
    exact absurd (show (n:Int)=_ by rw [hn]) bc
   exact absurd rfl bh
  exact absurd rfl bg
 exact absurd rfl be
end Go.Sl
namespace Go.Sl
open Go.ChangeShapes Go.WideShapes Go.ChangeAt Go.RowKit Go.Deep
variable{v:Value}{e:TypeId}{a:Addr}
section
variable {κ:Ctx}{w w':World}{I:List Item}
theorem old_cell(hs:Sep κ w' I)(hm:old w.heap.size w∈I){b o:Nat}{u:Value}(Z:w.cell? ⟨b,o,none⟩=some u):w'.cell? ⟨b,o,none⟩=some u:=by
 have M:∀k,k<w.heap.size->w'.heap[k]? = w.heap[k]? :=(hs.ok _ hm).1
 have hb:b<w.heap.size:=by
  refine Nat.not_le.1 λh=>?_
  simp [World.cell?,Array.getElem?_eq_none h] at Z
 have:=M b hb
 simp only [World.cell?,this] at Z ⊢
 exact Z
def SlW{α:Type}[Enc α](w:World)(v:Value)(xs:List α):Prop:=slOk w (Enc.sz α) v xs.length (cells xs)
theorem SlW.sl{α:Type}[Enc α]{xs:List α}(h:SlW w v xs)(hm:old w.heap.size w∈I):Sl κ I v xs:=λw' hs=>by
 obtain ⟨a,cap,hv,h1,h2,Z,h4⟩:=h
 refine ⟨a,cap,hv,h1,h2,Z,λM=>?_⟩
 obtain ⟨b,off,ha,hr⟩:=h4 M
 exact ⟨b,off,ha,λj u hj=>old_cell hs hm<|hr j u hj⟩
end
section
variable {P:Program}{w:World}{r:Reach}{b0:Nat}{t:TypeId}{H:Type}{enc:TypeId×Value->H}{base:Nat}{spare:Nat->Bool}{held:Bool}
theorem spot_none{len cap:Nat}(Z:P.underlying t=some (.slice e))(h:Cell.okWide P w r b0 t (.slice (some a) len cap)):a.spot=none:=by
 simp only [Cell.okWide,Cell.ok,Z] at h
 exact h.2.2.2.1
theorem InR_of{n:Int}(h:(Lit.int .i64 n).wf=true):InR n:=by
 simp only [Lit.wf,Bool.and_eq_true,decide_eq_true_eq] at h
 exact h
def Light(P:Program)(t:TypeId)(d:DataW H):Prop:=∀n∈d.weights P t,n<=reachBytes
theorem light_arg{Z:List TypeId}{ds:List (DataW H)}(h:(DataW.weightsEach P Z ds).all (· <= reachBytes)=true){j:Nat}{d:DataW H}(ht:Z[j]? = some t)(M:ds[j]? = some d):Light P t d:=λn hn=>by
 have:=List.all_eq_true.1 h _ (DataW.weights_mem_each ht M n hn)
 simpa using this
theorem light_slice{es sp:List (DataW H)}(Z:P.underlying t=some (.slice e))(h:Light P t (.slice es sp)):es.length*P.bytesOf e<=140737488351232:=by
 have M:=h ((es.length+sp.length)*P.bytesOf e) (by simp [DataW.weights,Z])
 have h2:es.length*P.bytesOf e<=(es.length+sp.length)*P.bytesOf e:=Nat.mul_le_mul_right _ (by omega)
 simp only [reachBytes] at M
 omega
theorem addr_eta(h:a.spot=none):a=⟨a.block,a.off,none⟩:=by cases a;simp_all
theorem in_ints{fuel:Nat}{x:DataW H×List MemPlace}(ht:P.underlying t=some (.slice e))(he:P.underlying e=some (.int .i64))(hc:P.cellsOf e=1)
  (hv:Cell.okWide P w r b0 t v) (h:DataW.trod enc P w base spare held fuel t [v]=some x) (hw:Light P t x.1):∃(a:Option Addr) (c:Nat) (xs:List Int),v = .slice a xs.length c/\SlW w (.slice a xs.length c) xs/\(∀n∈xs,InR n)/\xs.length*P.bytesOf e<=140737488351232:=by
 rcases open_ints ht he hc h with ⟨M,_⟩|⟨a,l,c,zs,M,_,hl,hm,hz,hx,Z,ad⟩
 ·obtain rfl:v = .slice none 0 0:=by simpa using M
  exact ⟨none,0,[],rfl,⟨none,0,rfl,by simp [cells],Nat.le_refl _,by simp,λh=>by omega⟩,by simp,by simp⟩
 obtain rfl:v = .slice (some a) l c:=by simpa using M
 have ab:=spot_none ht hv
 have ae:l<=zs.length:=by rw [hz];split<;>omega
 have aa:(zs.take l).length=l:=by rw [List.length_take];omega
 refine ⟨some a,c,zs.take l,by rw [aa],⟨some a,c,rfl,cells_length _,by rw [aa];exact hl,hm,λah=>⟨a.block,a.off,by rw [←addr_eta ab],λj u hj=>?_⟩⟩,λn hn=>InR_of (ad n (List.mem_of_mem_take hn)),by
  rw [hx] at hw
  have:=light_slice ht hw
  simpa [lits] using this⟩
 have ai:j<l:=by
  have:=(List.getElem?_eq_some_iff.1 hj).1
  rw [cells_length,aa] at this
  have e1:Enc.sz Int=1:=rfl
  rw [e1] at this;omega
 have h1:=cells_get (zs.take l) j 0 (by omega) (by decide)
 have e1:j*Enc.sz Int+0=j:=by show j*1+0=j;omega
 rw [e1] at h1
 rw [h1] at hj
 have h2:=Z j (by omega)
 rw [addr_eta ab,addr_add] at h2
 have h3:u=e7 (zs.getD j 0):=by
  have h4:some (e7<|(zs.take l)[j]'(by omega))=some u:=hj
  simp only [Option.some.injEq] at h4
  rw [←h4]
  simp [List.getD_eq_getElem?_getD,List.getElem?_eq_getElem (show j<zs.length by omega)]
 rw [h3];exact h2
theorem arg_cell{d:DataW H}{ps:List MemPlace}(Z:P.underlying t=some (.slice e))(hv:Value.okWide P w r b0 t v)(h:DataW.Trod enc P w base spare held t v d ps):Cell.okWide P w r b0 t v/\∃fuel,DataW.trod enc P w base spare held fuel t [v]=some (d,ps):=by
 obtain ⟨a,len,cap,rfl⟩:=okWide_slice Z hv
 simp only [Value.okWide,Z] at hv
 obtain ⟨fuel,M⟩:=h
 exact ⟨hv,fuel,by simpa [Value.cells] using M⟩
theorem joined_mk{P:Program}{f:FuncId}{Z:Func}{s:ChangeSpec}{c:OpenClaim}(h1:(c.wf (OpenSpec.ofChange s))=true)(h2:(laidOutB P)=true)(h3:(mapsRowed P)=true)(h4:(Z.params.all (P.readableRec ·))=true)(h5:(namedTie P c.named s.vars)=true)(h6:((c.stops==[]))=true)(h7:((P.stops==[]))=true)(h8:((c.knobs==[]))=true)(h9:((P.stopKnobs==[]))=true)(a1:((c.inPlace==P.inPlace f))=true)(ay:((c.unfollowed==P.unfollowed f))=true)(ah:((c.recurses==P.recurses f))=true)(ad:((c.named==P.varsNamed f))=true)(ap:((c.maps==(Z.params.toList++s.plain.varTypes P).any (P.mapsRec ·)))=true)(ao:((c.ifaces==(Z.params.toList++s.plain.varTypes P).any (P.ifacesRec ·)))=true)(av:((c.mapsOut==P.mapsAmong Z.resultTypes.toList))=true)(aq:((c.loops==(Z.params.toList++s.plain.varTypes P).any (P.loopsFrom ·)))=true)(ax:((c.wideKeys==(Z.params.toList++s.plain.varTypes P++Z.resultTypes.toList).any (P.wideKeysFrom ·)))=true)(aw:(s.vars.all (P.varReadable ·))=true)(a3:(Z.resultTypes.all (λt=>P.readableRec t&&decide (t<P.types.size)))=true)(ak:((c.ifacesOut==Z.resultTypes.toList.any (P.ifacesRec ·)))=true)(ae:((c.loopsOut==Z.resultTypes.toList.any (P.loopsFrom ·)))=true)(ar:((c.plainKeys==P.plainKeys))=true)(ab:(c.shortTexts.isNone)=true)(a0:(P.stopsHeard)=true)(au:(P.mayEnter)=true)(aa:((c.lifted==P.liftsFinal))=true)(az:((P.make==some c.make))=true)(ai:((c.kinds==(if c.domain.isEmpty then [] else Z.params.toList.map λt=>match P.underlying t with |some (.int k)=>some k|_=>none)))=true)(aj:((c.pinned==c.pinnedBy))=true)(M:((c.veiled==(Z.params.toList++s.plain.varTypes P++Z.resultTypes.toList).any (P.veiledRec ·)))=true)(an:(c.veiledFits P Z.params.toList (Z.params.toList++s.plain.varTypes P++Z.resultTypes.toList))=true):joinedFacts P f Z s c=true:=by
 unfold joinedFacts
 exact (Bool.and_eq_true_iff.2 ⟨(Bool.and_eq_true_iff.2 ⟨(Bool.and_eq_true_iff.2 ⟨(Bool.and_eq_true_iff.2 ⟨(Bool.and_eq_true_iff.2 ⟨(Bool.and_eq_true_iff.2 ⟨(Bool.and_eq_true_iff.2 ⟨(Bool.and_eq_true_iff.2 ⟨(Bool.and_eq_true_iff.2 ⟨(Bool.and_eq_true_iff.2 ⟨(Bool.and_eq_true_iff.2 ⟨(Bool.and_eq_true_iff.2 ⟨(Bool.and_eq_true_iff.2 ⟨(Bool.and_eq_true_iff.2 ⟨(Bool.and_eq_true_iff.2 ⟨(Bool.and_eq_true_iff.2 ⟨(Bool.and_eq_true_iff.2 ⟨(Bool.and_eq_true_iff.2 ⟨(Bool.and_eq_true_iff.2 ⟨(Bool.and_eq_true_iff.2 ⟨(Bool.and_eq_true_iff.2 ⟨(Bool.and_eq_true_iff.2 ⟨(Bool.and_eq_true_iff.2 ⟨(Bool.and_eq_true_iff.2 ⟨(Bool.and_eq_true_iff.2 ⟨(Bool.and_eq_true_iff.2 ⟨(Bool.and_eq_true_iff.2 ⟨(Bool.and_eq_true_iff.2 ⟨(Bool.and_eq_true_iff.2 ⟨(Bool.and_eq_true_iff.2 ⟨(Bool.and_eq_true_iff.2 ⟨h1,h2⟩),h3⟩),h4⟩),h5⟩),h6⟩),h7⟩),h8⟩),h9⟩),a1⟩),ay⟩),ah⟩),ad⟩),ap⟩),ao⟩),av⟩),aq⟩),ax⟩),aw⟩),a3⟩),ak⟩),ae⟩),ar⟩),ab⟩),a0⟩),au⟩),aa⟩),az⟩),ai⟩),aj⟩),M⟩),an⟩)
theorem calls_below{f:FuncId}{Z:List Value}(h:eu P ⟨w.os,w.tape,w.output,w.drawn⟩ f Z [old w.heap.size w] λr J=>r = .bool true/\[old w.heap.size w]=J) :
  Calls P f Z.toArray w λe w'=>e = .returned (.bool true)/\Below w.heap.size w w':=
 (h w<|Sep.begin w).mono λe w' ⟨v,J,he,⟨hv,M⟩,hs⟩=>by
  subst hv M
  exact ⟨he,hs.below List.mem_cons_self⟩
end
end Go.Sl
