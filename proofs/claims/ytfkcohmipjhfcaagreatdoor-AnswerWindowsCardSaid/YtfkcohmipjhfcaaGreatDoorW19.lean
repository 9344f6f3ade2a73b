/- A part of the proofs of statements of this seat: contracts of functions, and the plain laws that they lean on. No conditions. -/
import Derived.Test.YtfkcohmipjhfcaaGreatDoorW18
import Derived.OrdersIn
set_option linter.unusedVariables false
set_option linter.unusedSimpArgs false
set_option linter.unusedSectionVars false
/- The links at a time depend on the events up to it alone. No conditions. -/
open Go.Proofs.Tryz (prog)
namespace Go.Sl
theorem up_take{es:List Ev}{t:Int}:∀{k:Nat},(∀i:Nat,i<k->i<es.length->(e_ es i).tm<=t)->(∀i:Nat,k<=i->i<es.length->t<(e_ es i).tm)->es.filter (upT t)=es.take k:=by
 induction es with
 |nil=>intro k _ _;simp
 |cons e es ih=>
  intro k h1 h2
  have sh:∀i:Nat,e_ (e::es) ((i+1:Nat):Int)=e_ es i:=λi=>by rw [at_nat,at_nat];rfl
  cases k with
  |zero=>
   rw [List.take_zero]
   refine List.filter_eq_nil_iff.2 λy hy hy2=>?_
   obtain ⟨i,hi,rfl⟩:=mem_at hy
   have:=h2 i (Nat.zero_le _) hi
   have:=of_decide_eq_true hy2
   omega
  |succ k=>
   have h0:=h1 0 om (by simp)
   rw [List.take_succ_cons,List.filter_cons_of_pos (by unfold upT;exact decide_eq_true h0),ih (k:=k) (λi hi hl=>by rw [←sh];exact h1 (i+1) om (by simpa using hl)) λi hi hl=>by rw [←sh];exact h2 (i+1) om (by simpa using hl)]
section
variable {nd kd wd mo t:Int}{es:List Ev}
theorem StOk.cutAt(h:StOk nd es)(t:Int):∃k,k<=es.length/\(∀i:Nat,i<k->(e_ es i).tm<=t)/\(∀i:Nat,k<=i->i<es.length->t<(e_ es i).tm):=by
 have hpw:=h.pw
 rcases split_up hpw t with hall|⟨e,q,he,hTe⟩
 ·exact ⟨es.length,Nat.le_refl _,λi hi=>hall _ (Cq om om),λi h1 h2=>by omega⟩
 ·obtain ⟨F,hF⟩:∃F,es.filter (upT t)=F:=⟨_,rfl⟩
  have hFm:∀y∈F,y.tm<=t:=λy hy=>by rw [←hF] at hy;exact of_decide_eq_true (List.mem_filter.1 hy).2
  rw [hF] at he
  clear hF
  subst he
  have hl:(F++e::q).length=F.length+(q.length+1):=by rw [List.length_append,List.length_cons]
  obtain ⟨_,hq,_⟩:=List.pairwise_append.1 hpw
  have hq1:=(List.pairwise_cons.1 hq).1
  refine ⟨F.length,by omega,λi hi=>?_,λi h1 h2=>?_⟩
  ·rw [Db _ i om,List.getElem_append_left hi]
   exact hFm _ (List.getElem_mem _)
  ·rw [Db _ i h2,List.getElem_append_right h1]
   have hm:(e::q)[i - F.length]'(by rw [List.length_cons];omega)∈e::q:=List.getElem_mem _
   rcases List.mem_cons.1 hm with hm|hm
   ·rw [hm];exact hTe
   ·have:=hq1 _ hm;omega
theorem age_at(h:StOk nd es)(hw:1<=wd){k:Nat}(hk:k<=es.length)(h1:∀i:Nat,i<k->(e_ es i).tm<=t)(h2:∀i:Nat,k<=i->i<es.length->t<(e_ es i).tm)(h0:0<=t) :
  ∀m:Nat,k+m<=es.length->(eh ((slideS 2 wd mo (es.take (k+m))).2.filter (upT t))).filter (aliveB wd t)=((es.take k).foldl ep []).filter (aliveB wd t)
 |0,_=>by
  have hB:=BehB.all (mo:=mo) h hw k hk
  have hlast:lastT es k<=t:=by
   unfold lastT
   split
   ·exact h0
   ·have:=h1 (k - 1) om
    rwa [show ((k - 1:Nat):Int)=(k:Int) - 1 by omega] at this
  rw [Nat.add_zero]
  have e:(slideS 2 wd mo (es.take k)).2.filter (upT t)=(slideS 2 wd mo (es.take k)).2:=List.filter_eq_self.2 λy hy=>decide_eq_true (by have:=hB.le y hy;omega)
  rw [e]
  have e2:eh (slideS 2 wd mo (es.take k)).2=(slideS 2 wd mo (es.take k)).1:=hB.st.symm
  rw [e2,hB.al,alive_two hlast]
 |m+1,hm=>by
  have ih:=age_at h hw hk h1 h2 h0 m om
  have hB:=BehB.all (mo:=mo) h hw (k+m) om
  have hfe:=h.fit (k+m) om
  have hto:=h.asc (k+m) om
  have hte:=h2 (k+m) om om
  rw [show k+(m+1)=k+m+1 by omega,slideS_succ om]
  have hl0:0<=lastT es (k+m):=by
   unfold lastT
   split
   ·exact Int.le_refl _
   ·have:=(h.fit (k+m - 1) om).tm.1
    rwa [show ((k+m - 1:Nat):Int)=((k+m:Nat):Int) - 1 by omega] at this
  generalize hs:slideS 2 wd mo (es.take (k+m))=s at ih hB ⊢
  generalize e_ es ((k+m:Nat):Int)=e at hfe hto hte ⊢
  obtain ⟨xs,out⟩:=s
  have hA:AgB nd wd (lastT es (k+m)) e.tm (2*(k+m)) ((es.take (k+m)).foldl ep []) xs out:=
   ⟨hB.inv,hB.st,hB.fit,hB.asc,λe' he'=>by have:=hB.le e' he';omega,λe' he' x hx=>by have h3:=hB.le e' he';have h4:=hB.inv.al rfl x hx;omega,by
    have:=hB.al
    simp only at this
    rw [this,alive_two hto],hB.sum⟩
  have hev:evStep 2 wd mo (xs,out) e=(ep (ageL wd mo e.tm xs out).1 e,(ageL wd mo e.tm xs out).2++[e]):=rfl
  rw [hev]
  obtain ⟨⟨_,h6⟩,_⟩:=ageL_ind (mo:=mo) (T:=e.tm) (P:=λxs out=>AgB nd wd (lastT es (k+m)) e.tm (2*(k+m)) ((es.take (k+m)).foldl ep []) xs out/\(eh (out.filter (upT t))).filter (aliveB wd t)=((es.take k).foldl ep []).filter (aliveB wd t))
   (λxs out hs hP=>⟨hP.1.step hl0 hfe.tm.2 hs,by
    obtain ⟨hAg,hE⟩:=hP
    have hg:∀y∈goneL 2 wd mo (minT xs+wd) xs,y.tm=minT xs+wd:=λy hy=>(gone_mem hy).2
    rw [List.filter_append]
    by_cases hmt:minT xs+wd<=t
    ·have ho:out.filter (upT t)=out:=List.filter_eq_self.2 λy hy=>by
      obtain ⟨⟨x0,hx0,e0⟩,_⟩:=minT_spec hs.1
      have:=hAg.bef y hy x0 hx0
      exact decide_eq_true om
     have hgo:(goneL 2 wd mo (minT xs+wd) xs).filter (upT t)=goneL 2 wd mo (minT xs+wd) xs:=List.filter_eq_self.2 λy hy=>decide_eq_true (by rw [hg y hy];exact hmt)
     rw [ho] at hE
     rw [ho,hgo,linksL_app,show eh out=xs from hAg.st.symm,gone_steps hAg.inv.val,inW_alive,alive_two hmt]
     rw [show eh out=xs from hAg.st.symm] at hE
     exact hE
    ·have hgo:(goneL 2 wd mo (minT xs+wd) xs).filter (upT t)=[]:=List.filter_eq_nil_iff.2 λy hy hy2=>by have:=of_decide_eq_true hy2;rw [hg y hy] at this;exact hmt this
     rw [hgo,List.append_nil];exact hE⟩) xs.length xs out (Nat.le_refl _) ⟨hA,ih⟩
  simp only
  rw [List.filter_append,List.filter_cons_of_neg (by unfold upT;simp;omega),List.filter_nil,List.append_nil]
  exact h6
theorem cnt_at(h:StOk nd es){k:Nat}(hk:k<=es.length)(h1:∀i:Nat,i<k->(e_ es i).tm<=t)(h2:∀i:Nat,k<=i->i<es.length->t<(e_ es i).tm)(h0:0<=t) :
  ∀m:Nat,k+m<=es.length->(slideS 3 0 mo (es.take (k+m))).2.filter (upT t)=(slideS 3 0 mo (es.take k)).2
 |0,_=>by
  have hlast:lastT es k<=t:=by
   unfold lastT
   split
   ·exact h0
   ·have:=h1 (k - 1) om
    rwa [show ((k - 1:Nat):Int)=(k:Int) - 1 by omega] at this
  have hB:=(slide3_asc (mo:=mo) h k hk).2
  rw [Nat.add_zero]
  exact List.filter_eq_self.2 λy hy=>decide_eq_true (by have:=hB y hy;omega)
 |m+1,hm=>by
  have ih:=cnt_at h hk h1 h2 h0 m om
  have hte:=h2 (k+m) om om
  rw [show k+(m+1)=k+m+1 by omega,slideS_succ om,evStep3]
  generalize slideS 3 0 mo (es.take (k+m))=s at ih ⊢
  generalize e_ es ((k+m:Nat):Int)=e at hte ⊢
  have hgo:(goneL 3 0 mo e.tm (ep s.1 e)).filter (upT t)=[]:=List.filter_eq_nil_iff.2 λy hy hy2=>by have:=of_decide_eq_true hy2;rw [(gone_mem hy).2] at this;omega
  simp only
  rw [List.filter_append,List.filter_append,List.filter_cons_of_neg (by unfold upT;simp;omega),List.filter_nil,List.append_nil,hgo,List.append_nil]
  exact ih
theorem atK_up(h:HistOk nd kd wd mo es)(ht:0<=t/\t<=1048576) :
  atK kd wd mo es t=if kd=2 then ((es.filter (upT t)).foldl ep []).filter (aliveB wd t) else if kd=3 then eh (slideS 3 0 mo (es.filter (upT t))).2 else (es.filter (upT t)).foldl ep []:=by
 obtain ⟨k,hk,h1,h2⟩:=h.st.cutAt t
 have hE:es.filter (upT t)=es.take k:=up_take (λi hi _=>h1 i hi) h2
 have he:es.take (k+(es.length - k))=es:=List.take_of_length_le om
 rw [atK_ref h ht,hE]
 unfold refK
 rcases checkW_cases h.win with ⟨rfl,rfl,rfl⟩|⟨rfl,hw,rfl⟩|⟨rfl,rfl,hm⟩
 ·rw [if_neg dc,if_neg dc,if_neg dc,all_same,hE];rfl
 ·rw [if_pos rfl,if_pos rfl]
  have:=age_at (mo:=0) (t:=t) h.st hw.1 hk h1 h2 ht.1 (es.length - k) om
  rw [he] at this
  exact this
 ·rw [if_neg dc,if_neg dc,if_pos rfl]
  have:=cnt_at (mo:=mo) (t:=t) h.st hk h1 h2 ht.1 (es.length - k) om
  rw [he] at this
  rw [this]
end
end Go.Sl
namespace Go.Sl
open Go.Proofs
set_option maxRecDepth 4000
section
variable {P:Program}{κ:Ctx}{N:Frm}{L:Env}{J:List Item}{d:Option Tmp}{ty:TypeId}{ps:String}{af:Array Edge}{gd:Option (Nat×Bool)}
theorem Runs.eqC{x y:Operand}{T U:TypeId}{v u:Value}{b:Bool}(hg:∀w:World,(eqGuard .eql T x y v u).run P w = .ok () w)(hT:∀w:World,(binOp .eql T v u).run P w = .ok (.bool b) w)(hx:er L x=some v)(hy:er L y=some u) :
  Runs P κ N ⟨d,.binOp .eql T x y U,ty,ps,af,gd⟩ L J (.bool b):=λa w ha _=>by
 simp only [execOp,ha.eval hx,ha.eval hy]
 simp [hg w,hT w]
end
theorem QOf8_ok{κ:Ctx}{I:List Item}  :
    eu prog κ 176 [e7 8] I (λr J=>r = .agg #[.bool false,.bool false,.bool false,.bool false,.bool true]/\I=J):=by
 refine Ce1 Tryz.func176 C C ?_
 refine Aj (Ge1 (A9 ty220 C) λb1=>Ah (Aj (Ge1 (A9 ty220 C) λb2=>Ah (Au (Aj (Gm C (Ah (A6 (Au (A6 (Au (A6 (Au (A6 (Au (A6 (Au (A6 (Au (A6 (Au (A6 (Au (Au (Aj (Gr (Bl C C) (Ga C (Ah (Bd C (λc5=>?_) (λc5=>?_))))))))))))))))))))))))))))))
 ·exact absurd c5 dc
 ·refine A4 (Ai (Au (Aj (Gr (Bl C C) (Ga C (Ah (Bd C (λc7=>?_) (λc7=>?_))))))))
  ·exact absurd c7 dc
  ·refine A4 (Ai (Au (Aj (Gr (Bl C C) (Ga C (Ah (Bd C (λc9=>?_) (λc9=>?_))))))))
   ·exact absurd c9 dc
   ·refine A4 (Ai (Au (Au (Aj (Gr (Bl C C) (Ga C (Ah (Bd C (λc11=>?_) (λc11=>?_)))))))))
    ·exact absurd c11 dc
    ·refine A0 (Gr (Bl C C) (Ga C (Ah (Av (S4 11 4 3 2 C C C C) (Bd C (λc11=>?_) (λc11=>?_))))))
     ·exact absurd c11 dc
     ·refine A4 (Ai (Au (Au (Aj (Gr (Bl C C) (Ga C (Ah (Bd C (λc14=>?_) (λc14=>?_)))))))))
      ·exact absurd c14 dc
      ·refine Aj (Gr (Bl C C) (Ga C (Ah (Bd C (λc14=>?_) (λc14=>?_)))))
       ·exact absurd c14 dc
       ·refine A0 (Gr (Bl C C) (Ga C (Ah (Bd C (λc14=>?_) (λc14=>?_)))))
        ·exact absurd c14 dc
        ·refine A4 (Ai (Au (Aj (Gr (Bl C C) (Ga C (Ah (Bd C (λc18=>?_) (λc18=>?_))))))))
         ·refine Bp (Ac (Ac (Ao C (Ac (Ao C (Ac (Ao C (Ac (Ao C (Ac (Ao C (Ac (Aw (Ai (Aj (Gf fld220_4 C (Ge0 (B4 (cs:=[_,_,_,_,_]) (vs:=[_]) (cs':=[_,_,_,_,_]) ty4) ?_)))))))))))))))))
          refine Ah (Bp (Ao C (Ac (Aw (Ai (Aj (Gr (Be (vs:=[_,_,_,_,_]) ty220) ?_)))))))
          refine Ge0 (Dn ty220) ?_
          exact Ah (Av (S1 2 C) (Az (Cf C ty220 C mm C I Ay ⟨rfl,rfl⟩)))
         ·exact absurd rfl c18
theorem QCheck8_ok{κ:Ctx}{I:List Item}{n num den:Int}(hf:FrV ⟨num,den⟩):eu prog κ 105 [.agg #[e7 8,e7 0,e7 0,e7 0,.slice none 0 0,e7 num,e7 den],e7 n] I (λr J=>r=e7 0/\I=J):=by
 have hn0:0<=num:=hf.n0
 refine Ce2 Tryz.func105 C C ?_
 refine Aj (Ge1 (Bg (cs:=[_,_,_,_,_,_,_]) C C C) λb1=>Ga C (Ah (Aj (Gf fld71_0 C (Gl ef ?_)))))
 refine G.e (Am call176 C C QOf8_ok) ?_
 rintro _ _ ⟨_,_,⟨rfl,rfl⟩,rfl,rfl⟩
 refine Ge1 (A9 ty220 C) λb2=>Ge0 (Dn ty220) ?_
 refine Ah (Au (A6 (Aj (Gr (Be (vs:=[_,_,_,_,_]) ty220) ?_))))
 refine Gr (Bc (cells:=[_,_,_,_,_]) ty220 Tryz.underlying220 pl220 C C) (Gr (Runs.eqC (λw=>by kernel_rfl) (λw=>by kernel_rfl) C C) (Ga C (Ah (Eo C (Aj (Gf fld220_0 C (Gl ty4 ?_)))))))
 refine Gm C (eb (eb (eb (eb (ee (ee (ee (ee (eb (Gr (Al C C) (Gm C (e9 (Ab fld220_1 C) (e9 (As ty4) ?_)))))))))))))
 refine e9 (Af C) (eb (eb (eb (eb (eb (eb (eb (e9 (Al C C) (Gr (Al C C) (Ga C (Ah (Av (S3 13 5 2 C C C) (Eo C (Aj (Gf fld220_3 C (Gl ty4 ?_))))))))))))))))
 refine Gm C (eb (eb (eb (eb (ee (ee (ee (eb (Gr (Al C C) (Ga C (Ah (Av (S3 40 5 2 C C C) (Eo C (Aj (Gf fld220_2 C (Gl ty4 ?_))))))))))))))))
 refine Gm C (eb (eb (eb (eb (ee (ee (ee (eb (Gr (Al C C) (Gm C (e9 (Ab fld220_4 C) (e9 (As ty4) ?_))))))))))))
 refine e9 (Af C) (e9 (Ab fld71_5 C) (e9 (Be (vs:=[_,_]) ty40) ?_))
 refine Et (Cz C C C) (Am call89 C C (RatValid_ok (⟨num,den⟩:Fr) hf)) ?_
 rintro _ _ ⟨_,_,⟨rfl,rfl⟩,rfl,rfl⟩
 refine e9 (B8 C) (e9 (Af C) (e9 (Ab fld71_5 C) (e9 (Ab fld40_0 C) (e9 (As ef) ?_))))
 refine e9 (Bi C C) (e9 (Al C C) (e9 (Ap C C) (Gr (Al C C) (Ga C (Ah (Av (S3 53 5 2 C C C) (Bd C (λc53=>?_) (λc53=>?_))))))))
 ·refine Aj (Ga C (Ah (Az (A3 (Ar ?_)))))
  exfalso;first|omega|(exact absurd rfl asm)|(simp_all;done)
 ·refine Aj (Gf fld220_0 C (Gl ty4 ?_))
  refine Gr (B8 C) (Gm C (e9 (Ab fld71_1 C) (e9 (As ef) ?_)))
  refine e9 (Bx C C) (Gr (Ap C C) (Gm C (Bs (d:=91) C (λg91=>?_) (λg91=>?_))))
  ·refine eb (eb (eb (eb (ee (ee (ee (ee (eb (Gr (Ap C C) (Gm C (eb (eb (eb (eb (ee (ee (ee (eb (Gr (Ap C C) (Gm C (eb (eb (eb (eb (ee (ee (ee (eb (Gr (Ap C C) (Gm C (eb (eb (eb (eb (ee (ee (ee (ee (eb (Gr (Ap C C) (Ga C (Ah (Av (S1 82 C) (Do C (Aj (Ga C (Ah (Az (A3 (Ar ?_))))))))))))))))))))))))))))))))))))))))))))))))))
   exfalso;first|omega|(exact absurd rfl asm)|(simp_all;done)
  ·refine e9 (Ab fld220_1 C) (e9 (As ty4) ?_)
   refine e9 (B8 C) (e9 (Af C) (e9 (Ab fld71_4 C) (e9 (As ty22) ?_)))
   refine e9 (Bz Ad C) (e9 (Ci C C) (e9 (Ap C C) (Gr (Al C C) (Gm C (Bs (d:=102) C (λg102=>?_) (λg102=>?_))))))
   ·refine eb (eb (eb (eb (ee (ee (ee (eb (Gr (Ap C C) (Gm C (eb (eb (eb (eb (ee (ee (ee (eb (Gr (Ap C C) (Gm C (eb (eb (eb (eb (ee (ee (ee (ee (eb (Gr (Ap C C) (Ga C (Ah (Av (S1 82 C) (Do C (Aj (Ga C (Ah (Az (A3 (Ar ?_)))))))))))))))))))))))))))))))))))))))
    exfalso;first|omega|(exact absurd rfl asm)|(simp_all;done)
   ·refine e9 (Ab fld220_3 C) (e9 (As ty4) ?_)
    refine e9 (B8 C) (e9 (Af C) (e9 (Ab fld71_3 C) (e9 (As ef) ?_)))
    refine e9 (Bx C C) (e9 (Ap C C) (Gr (Al C C) (Gm C (Bs (d:=112) C (λg112=>?_) (λg112=>?_)))))
    ·refine eb (eb (eb (eb (ee (ee (ee (eb (Gr (Ap C C) (Gm C (eb (eb (eb (eb (ee (ee (ee (ee (eb (Gr (Ap C C) (Ga C (Ah (Av (S1 82 C) (Do C (Aj (Ga C (Ah (Az (A3 (Ar ?_)))))))))))))))))))))))))))))
     exfalso;first|omega|(exact absurd rfl asm)|(simp_all;done)
    ·refine e9 (Ab fld220_2 C) (e9 (As ty4) ?_)
     refine e9 (B8 C) (e9 (Af C) (e9 (Ab fld71_2 C) (e9 (As ef) ?_)))
     refine e9 (Bx C C) (e9 (Ap C C) (Gr (Al C C) (Gm C (Bs (d:=122) C (λg122=>?_) (λg122=>?_)))))
     ·refine eb (eb (eb (eb (ee (ee (ee (ee (eb (Gr (Ap C C) (Ga C (Ah (Av (S1 82 C) (Do C (Aj (Ga C (Ah (Az (A3 (Ar ?_)))))))))))))))))))
      exfalso;first|omega|(exact absurd rfl asm)|(simp_all;done)
     ·refine e9 (Ab fld220_4 C) (e9 (As ty4) ?_)
      exact e9 (B8 C) (e9 (Af C) (eb (eb (eb (eb (e9 (Al C C) (Gr (Al C C) (Ga C (Ah (Av (S1 82 C) (Eo C (A4 (Ak (Ai (Aj (Ga C (Ah (Az (Ba C C I Ay ⟨rfl,rfl⟩)))))))))))))))))))
theorem PAt_ok{κ:Ctx}{I:List Item}{nd kd wd mo tq:Int}{ea:Option Addr}{ec:Nat}{es:List Ev}(hl:Sl κ I (.slice ea es.length ec) es)(hH:HistOk nd kd wd mo es)(hlen:es.length<=19)(ht:0<=tq/\tq<=1048576):eu prog κ 180 [.agg #[e7 nd,.slice ea es.length ec,e7 kd,e7 wd,e7 mo],e7 tq] I (λr J=>∃a c,r = .agg #[e7 nd,.slice a (atG kd wd mo es tq).length c]/\J=vc 135 (.slice a (atG kd wd mo es tq).length c) (atG kd wd mo es tq)::I):=by
 refine Ce2 Tryz.func180 C C ?_
 refine Aj (Ge1 (Bg (cs:=[_,_,_,_,_]) C C C) λb1=>Ge1 (A9 ty48 C) λb2=>Ah (Aj (Gf fld163_0 C (Gl ef ?_))))
 refine Gf fld163_1 C (Gl ty28 ?_)
 refine Gf fld163_2 C (Gl3 ty31 ?_)
 refine Gm C (G.e (Am call44 C C (At_ok (nd:=nd) (kd:=kd) (wd:=wd) (mo:=mo) (tq:=tq) (Bj hl) hH hlen ht)) ?_)
 rintro _ _ ⟨_,_,⟨ad3,cp4,rfl,rfl⟩,rfl,rfl⟩
 refine Gm C (Gr (Ax C C) (Gr (Ax C C) (Ge1 (A9 ty48 C) λb5=>Ge0 (Cs ty48) ?_)))
 refine Ga C (Ah (Av (S2 5 4 C C) (Aj (Gl2 ty48 ?_))))
 refine Ge0 (Cs ty48) ?_
 exact Ah (Az (Cf C ty48 C mm C (vc 135 (.slice ad3 (atG kd wd mo es tq).length cp4) (atG kd wd mo es tq)::I) Bv ⟨ad3,cp4,rfl,rfl⟩))
set_option maxHeartbeats 1000000 in
theorem ADense_ok{κ:Ctx}{I:List Item}{nd tv:Int}{ea:Option Addr}{ec:Nat}{es:List Pt}(hl:Sl κ I (.slice ea es.length ec) es)(hT:TabRd κ I 0 tzCells):eu prog κ 186 [.agg #[e7 nd,.slice ea es.length ec],.agg #[.bool false,e7 0,e7 tv,.slice none 0 0,e7 0,e7 0,.slice none 0 0,.slice none 0 0,.slice none 0 0,e7 0,.slice none 0 0]] I (λr J=>∃a c B a2 c2 parts N D E,r = .agg #[.bool true,e7 0,e7 tv,.slice a (eo B).length c,e7 N,e7 D,.slice none 0 0,.slice none 0 0,.slice none 0 0,e7 E,.slice a2 (parts:List Int).length c2]/\(BestR nd es N D B/\SplitB nd es N D E parts)/\J=vc 3 (.slice a (eo B).length c) (eo B)::vc 3 (.slice a2 parts.length c2) parts::I):=by
 refine Ce2 Tryz.func186 C C ?_
 refine Aj (Ge1 (Bg (cs:=[_,_]) C C C) λb1=>Ge1 (Bg (cs:=[_,_,_,_,_,_,_,_,_,_,_]) C C C) λb2=>Ge1 (A9 ty90 C) λb3=>Ah (Aj (Gl2 ty48 ?_)))
 refine G.e (Am call100 C C (BestD_ok (nd:=nd) (Bj hl) (Bw hT Ay))) ?_
 rintro _ _ ⟨_,_,⟨ad4,cp5,Bqq8,ad6,cp7,ptq8,Nqq8,Dqq8,Eqq8,rfl,⟨hBR,hSB⟩,rfl⟩,rfl,rfl⟩
 refine Gm C (Gr (Ax C C) (Gr (Ax C C) (Ge1 (A9 ty102 C) λb9=>Ge0 (Dn ty102) ?_)))
 refine Ga C (Ah (Au (Bt mixed (C9 (e8 b9 [.slice ad4 (eo Bqq8).length cp5,e7 Nqq8,e7 Dqq8,e7 Eqq8,.slice ad6 ptq8.length cp7] 102::vc 3 (.slice ad4 (eo Bqq8).length cp5) (eo Bqq8)::vc 3 (.slice ad6 ptq8.length cp7) (ptq8)::e8 b3 [.bool false,e7 0,e7 0,.slice none 0 0,e7 0,e7 0,.slice none 0 0,.slice none 0 0,.slice none 0 0,e7 0,.slice none 0 0] 90::e8 b1 [e7 nd,.slice ea es.length ec] 48::I) 14 (Dr 0 C (Ab fld102_0 C) (Dr 1 C (As ty22) ?_))))))
 refine Dr 2 C (Ab fld102_1 C) (Dr 3 C (Be (vs:=[_,_]) ty40) ?_)
 refine Dr 4 C (Ab fld102_2 C) (Dr 5 C (Be (vs:=[_,_]) ty88) ?_)
 refine Dr 6 C (Ab fld90_0 C) (Ds1 7 (Se0 C (B4 (cs:=[_,_,_,_,_,_,_,_,_,_,_]) (vs:=[_]) (cs':=[_,_,_,_,_,_,_,_,_,_,_]) ty4) ?_))
 refine Dr 8 C (Ab fld90_3 C) (Ds1 9 (Se0 C (B4 (cs:=[_,_,_,_,_,_,_,_,_,_,_]) (vs:=[_]) (cs':=[_,_,_,_,_,_,_,_,_,_,_]) ty22) ?_))
 refine Dr 10 C (Ab fld90_4 C) (Ds1 11 (Se0 C (B4 (cs:=[_,_,_,_,_,_,_,_,_,_,_]) (vs:=[_,_]) (cs':=[_,_,_,_,_,_,_,_,_,_,_]) ty40) ?_))
 refine Dr 12 C (Ab fld90_8 C) (Ds1 13 (Se0 C (B4 (cs:=[_,_,_,_,_,_,_,_,_,_,_]) (vs:=[_,_]) (cs':=[_,_,_,_,_,_,_,_,_,_,_]) ty88) ?_))
 refine Dz (Ai (Av (S2 4 3 C C) (Aj (Gr (Be (vs:=[_,_,_,_,_,_,_,_,_,_,_]) ty90) ?_))))
 refine Ge0 (B4 (cs:=[_,_,_,_,_,_,_,_,_,_,_]) (vs:=[_,_,_,_,_,_,_,_,_,_,_]) (cs':=[_,_,_,_,_,_,_,_,_,_,_]) ty90) ?_
 exact Ah (Az (Cf C ty90 C mm C (vc 3 (.slice ad4 (eo Bqq8).length cp5) (eo Bqq8)::vc 3 (.slice ad6 ptq8.length cp7) ptq8::I) Bv ⟨ad4,cp5,Bqq8,ad6,cp7,ptq8,Nqq8,Dqq8,Eqq8,rfl,⟨hBR,hSB⟩,rfl⟩))
end Go.Sl
namespace Go.Sl
end Go.Sl
namespace Go.Sl
open Go.Proofs
set_option maxRecDepth 4000
end Go.Sl
namespace Go.Sl
end Go.Sl
namespace Go.Sl
open Go.Proofs
set_option maxRecDepth 4000
variable {κ:Ctx}{I:List Item}
theorem MkWindowV_base{b:Nat}{lv:Value}{ls:List Int}{i:Int}(hl:∀q,Sl κ (deck b lv q::I) lv ls)(h0:0<=i)   :
    eu prog κ 21 [.pointer (some ⟨b,0,none⟩)] (e8 b [lv,e7 i] 125::I) (λr J=>∃y:Int×Int×Int×Int,((r = .agg #[e7 y.1,e7 y.2.1,e7 y.2.2.1]/\checkW y.1 y.2.1 y.2.2.1=0)/\0<=y.2.2.2)/\J=[]++deck b lv y.2.2.2::I):=by
 refine Ce1 Tryz.func21 C C ?_
 refine Aj (Ge1 (A9 ty31 C) λb1=>Ah (Au (Aj (Gm C (G.e (Am call19 C C (Next_ok (by repeat (first|exact AtF.head _ _|apply AtF.tail)) (Ce (hl _) Ay) om om)) ?_)))))
 rintro _ _ ⟨_,_,⟨x2,i3,rfl,hx2,hi3,rfl⟩,rfl,rfl⟩
 refine Ah (A6 (Aj (Gr (Bl C C) (Ga C (Ah (Bd C (λc5=>?_) (λc5=>?_)))))))
 ·refine Aj (Gm C (G.e (Am call19 C C (Next_ok (by repeat (first|exact AtF.head _ _|apply AtF.tail)) (Ce (hl _) Ay) om om)) ?_))
  rintro _ _ ⟨_,_,⟨x4,i5,rfl,hx4,hi5,rfl⟩,rfl,rfl⟩
  refine Gr (Rad C C) (Gr (Bc (cells:=[_,_,_]) ty31 Dk pl31 C C) (Ge0 (Es3_3 ty31) ?_))
  exact Ah (Az (A3 (Ar (Cf C ty31 C mm C (e8 b [lv,e7 i5] 125::I) A5 ⟨(2,1+x4,0,i5),⟨⟨rfl,by show checkW 2 (1+x4) (0)=0;unfold checkW;rw [if_neg om,if_neg om]⟩,by show 0<=i5;omega⟩,rfl⟩))))
 ·refine Aj (Gr (Bl C C) (Ga C (Ah (Bd C (λc11=>?_) (λc11=>?_)))))
  ·refine Aj (Gm C (G.e (Am call19 C C (Next_ok (by repeat (first|exact AtF.head _ _|apply AtF.tail)) (Ce (hl _) Ay) om om)) ?_))
   rintro _ _ ⟨_,_,⟨x6,i7,rfl,hx6,hi7,rfl⟩,rfl,rfl⟩
   refine Gr (Bc (cells:=[_,_,_]) ty31 Dk pl31 C C) (Ge0 (Es3_3 ty31) ?_)
   exact Ah (Az (A3 (Ar (Cf C ty31 C mm C (e8 b [lv,e7 i7] 125::I) A5 ⟨(3,0,x6,i7),⟨⟨rfl,by show checkW 3 0 (x6)=0;unfold checkW;rw [if_neg om,if_neg om]⟩,by show 0<=i7;omega⟩,rfl⟩))))
  ·refine A4 (Ak (Ai (Aj (Gr (Bc (cells:=[_,_,_]) ty31 Dk pl31 C C) (Ge0 (Es3_3 ty31) ?_)))))
   exact Ah (Az (Cf C ty31 C mm C (e8 b [lv,e7 i3] 125::I) A5 ⟨(1,0,0,i3),⟨⟨rfl,by show checkW 1 0 (0)=0;unfold checkW;rw [if_neg om,if_neg om]⟩,by show 0<=i3;omega⟩,rfl⟩))
theorem MkWindowV_at{F:Item->List Item}{b:Nat}{lv:Value}{ls:List Int}{i:Int}(hat:AtF I (deck b lv i) F)(hl:∀q,Sl κ (F (deck b lv q)) lv ls)(h0:0<=i)   :
  eu prog κ 21 [.pointer (some ⟨b,0,none⟩)] I λr J=>∃y:Int×Int×Int×Int,((r = .agg #[e7 y.1,e7 y.2.1,e7 y.2.2.1]/\checkW y.1 y.2.1 y.2.2.1=0)/\0<=y.2.2.2)/\J=[]++F (deck b lv y.2.2.2):=
 Ej (Post:=λr (y:Int×Int×Int×Int)=>(r = .agg #[e7 y.1,e7 y.2.1,e7 y.2.2.1]/\checkW y.1 y.2.1 y.2.2.1=0)/\0<=y.2.2.2) (Z:=λy:Int×Int×Int×Int=>[]) (X:=λy:Int×Int×Int×Int=>deck b lv y.2.2.2) hat λJ _ hF=>MkWindowV_base (λq=>(hl q).fit (hF _)) h0  
variable {κ:Ctx}{I:List Item}
theorem small3{W:BitVec 64}(h:subN 3 W):∃k:Fin 8,W=BitVec.ofNat 64 k.val:=by
 have hb:∀i:Nat,3<=i->W.getLsbD i=false:=λi hi=>by
  by_cases h64:i<64
  ·cases hc:W.getLsbD i with
   |false=>rfl
   |true=>
    have:=h (i:Int) (mem_listB.2 ⟨by omega,by rw [Int.toNat_natCast];exact hc⟩)
    omega
  ·exact BitVec.getLsbD_of_ge _ _ om
 have hlt:W.toNat<2 ^ 3:=by
  refine Nat.lt_pow_two_of_testBit _ λi hi=>?_
  have:=hb i hi
  rwa [←BitVec.testBit_toNat] at this
 exact ⟨⟨W.toNat,hlt⟩,by simp⟩
abbrev gB:List Pt:=[⟨0,1⟩]
theorem densB:DensP 3 1 2 gB 3#64 where
 sub:=by unfold subN;decide+kernel
 ne:=by decide
 eq:=by decide+kernel
 max:=λW h=>by
  obtain ⟨k,rfl⟩:=small3 h
  have:∀k:Fin 8,2*insE (BitVec.ofNat 64 k.val) gB<=1*cntB (BitVec.ofNat 64 k.val):=by decide+kernel
  exact this k
 great:=λW h e=>by
  obtain ⟨k,rfl⟩:=small3 h
  have:∀k:Fin 8,2*insE (BitVec.ofNat 64 k.val) gB=1*cntB (BitVec.ofNat 64 k.val)->∀x∈eo (BitVec.ofNat 64 k.val),x∈eo 3#64:=by decide+kernel
  exact this k e
theorem grB:GrOk 3 gB:=checkG_ok.1 (by decide+kernel)
theorem bestB{N D:Int}{B:BitVec 64}(h:BestR 3 gB N D B):eo B=[0,1]/\N=1/\D=2:=by
 have hz:=checkG_ok.2 grB
 have hR:=h.some hz dc
 have hf:=h.frv grB
 have hu:=densB.uniq dc hR.den.1 hR.dens
 have hd:=hR.den
 have hD:D=2*N:=by omega
 have hN:0<N:=by omega
 have hc:gcdI N (2*N)=1:=by have:=hf.cop;simp only at this;rw [←hD];exact this
 have h1:N=1:=by
  have h2:=gcdI_step (a:=2*N) (b:=N) om hN
  have h3:Int.tmod (2*N) N=0:=by rw [Int.mul_comm];exact Int.mul_tmod_right N 2
  rw [h3,gcdI_zero om] at h2
  have h4:=gcdI_step (a:=N) (b:=2*N) om om
  rw [Int.tmod_eq_of_lt om om] at h4
  omega
 subst h1
 have hD2:D=2:=by omega
 subst hD2
 refine ⟨?_,rfl,rfl⟩
 refine intLin.uniq (listB_asc _) dc λx=>?_
 have e3:eo 3#64=[0,1]:=by decide+kernel
 rw [←e3]
 exact ⟨λhx=>densB.great B hR.dens.sub (by have:=hR.dens.eq;exact this) x hx,λhx=>hR.dens.great 3#64 densB.sub (by have:=densB.eq;exact this) x hx⟩
abbrev evB:Ev:=⟨1,5,0,1,1,0,1⟩
theorem hist_B:HistOk 3 1 0 0 [evB]:=⟨⟨by decide,by decide,λj hj=>by
 obtain rfl:j=0:=by simp at hj;exact hj
 exact fitE_ok.1 dc,λj hj=>by
 obtain rfl:j=0:=by simp at hj;exact hj
 decide⟩,by decide⟩
theorem all_B:allE 1 0 0 [evB]=[evB]:=by unfold allE;rw [all_same];decide
theorem at_B:atG 1 0 0 [evB] 5=gB:=by unfold atG atK;rw [all_B];decide
theorem reach_B:reachQ 3 1 0 0 [evB] 1 2 5:=by
 unfold reachQ densQ
 rw [at_B,if_neg dc]
 exact ⟨3#64,densB.sub,densB.ne,by decide+kernel⟩
theorem first_B(tv:Int)(ok:Bool)(h:FirstP 1 0 0 [evB] (reachQ 3 1 0 0 [evB] 1 2) tv ok):tv=5/\ok=true:=by
 rcases h with ⟨h1,⟨e,he,h2⟩,_⟩|⟨_,_,h3⟩
 ·rw [all_B,List.mem_singleton] at he
  subst he
  exact ⟨h2.symm,h1⟩
 ·exact absurd reach_B (h3 evB (by rw [all_B];exact List.mem_singleton.2 rfl))
set_option maxHeartbeats 1000000 in
theorem AnsFirst_ok{nd kd wd mo num den T0:Int}{ea:Option Addr}{ec:Nat}{es:List Ev}(hl:Sl κ I (.slice ea es.length ec) es)(hH:HistOk nd kd wd mo es)(hlen:es.length<=19)(hf:FrV ⟨num,den⟩)(hT0:∀tv ok,FirstP kd wd mo es (reachQ nd kd wd mo es num den) tv ok->tv=T0/\ok=true)(ht0:0<=T0/\T0<=1048576)(hT:TabRd κ I 0 tzCells):eu prog κ 191 [.agg #[e7 nd,.slice ea es.length ec,e7 kd,e7 wd,e7 mo],.agg #[e7 8,e7 0,e7 0,e7 0,.slice none 0 0,e7 num,e7 den]] I (λr J=>∃a c B a2 c2 parts N D E,r = .agg #[.bool true,e7 0,e7 T0,.slice a (eo B).length c,e7 N,e7 D,.slice none 0 0,.slice none 0 0,.slice none 0 0,e7 E,.slice a2 (parts:List Int).length c2]/\(BestR nd (atG kd wd mo es T0) N D B/\SplitB nd (atG kd wd mo es T0) N D E parts)/\J=vc 3 (.slice a (eo B).length c) (eo B)::vc 3 (.slice a2 parts.length c2) parts::I):=by
 refine Ce2 Tryz.func191 C C ?_
 refine Aj (Ge1 (Bg (cs:=[_,_,_,_,_]) C C C) λb1=>Ge1 (Bg (cs:=[_,_,_,_,_,_,_]) C C C) λb2=>Ge1 (A9 ty90 C) λb3=>Ah (Aj (Gf fld163_0 C (Gl ef ?_))))
 refine Gf fld163_1 C (Gl ty28 ?_)
 refine Gf fld163_2 C (Gl3 ty31 ?_)
 refine Gf fld71_5 C (Gl2 ty40 ?_)
 refine G.e (Am call47 C C (AFirst_ok (nd:=nd) (kd:=kd) (wd:=wd) (mo:=mo) (num:=num) (den:=den) (Bj hl) hH hlen hf (Bw hT Ay))) ?_
 rintro _ _ ⟨_,_,⟨tv4,ok5,rfl,hFPtv4,rfl⟩,rfl,rfl⟩
 obtain ⟨htvtv4,hoktv4⟩:=hT0 _ _ hFPtv4
 rw [htvtv4,hoktv4]
 refine Gm C (Gr (Ax C C) (Gr (Ax C C) (Gr (Ax C C) (Ga C (Ga C (Ga C (Ah (Av (S4 6 5 4 2 C C C C) (Au (Aj (Gm C (Gr (B8 C) (Ah (Eo C (A4 (Ai (Aj (Gr (Be (vs:=[_,_,_,_,_]) ty163) ?_))))))))))))))))))
 refine Gm C (Gc2 (Am call180 C C (PAt_ok (nd:=nd) (kd:=kd) (wd:=wd) (mo:=mo) (tq:=T0) (Bj hl) hH hlen ht0)) λad6 cp7=>?_)
 refine Gm C (Gr (Bc (cells:=[_,_,_,_,_,_,_,_,_,_,_]) ty90 Cd pl90 C C) (G.e (Am call186 C C (ADense_ok (nd:=nd) (tv:=T0) Bk (Bw hT Ay))) ?_))
 rintro _ _ ⟨_,_,⟨ad8,cp10,BB11,ad12,cp13,pt14,NN15,DD16,EE17,rfl,⟨hBR,hSB⟩,rfl⟩,rfl,rfl⟩
 refine Ge0 (B4 (cs:=[_,_,_,_,_,_,_,_,_,_,_]) (vs:=[_,_,_,_,_,_,_,_,_,_,_]) (cs':=[_,_,_,_,_,_,_,_,_,_,_]) ty90) ?_
 exact Ah (Az (Cf C ty90 C mm C (vc 3 (.slice ad8 (eo BB11).length cp10) (eo BB11)::vc 3 (.slice ad12 pt14.length cp13) pt14::I) Bv ⟨ad8,cp10,BB11,ad12,cp13,pt14,NN15,DD16,EE17,rfl,⟨hBR,hSB⟩,rfl⟩))
theorem Answers_ok  :
    eu prog κ 106 [] I (λr J=>∃m_:Nat,r = .map (some m_)/\J=mp m_ [({key:=e7 1,val:= .func (.func 178) #[] #[],born:=0}:MapEntry),({key:=e7 2,val:= .func (.func 181) #[] #[],born:=1}:MapEntry),({key:=e7 3,val:= .func (.func 182) #[] #[],born:=2}:MapEntry),({key:=e7 4,val:= .func (.func 184) #[] #[],born:=3}:MapEntry),({key:=e7 5,val:= .func (.func 185) #[] #[],born:=4}:MapEntry),({key:=e7 6,val:= .func (.func 187) #[] #[],born:=5}:MapEntry),({key:=e7 7,val:= .func (.func 189) #[] #[],born:=6}:MapEntry),({key:=e7 8,val:= .func (.func 191) #[] #[],born:=7}:MapEntry),({key:=e7 9,val:= .func (.func 192) #[] #[],born:=8}:MapEntry),({key:=e7 10,val:= .func (.func 193) #[] #[],born:=9}:MapEntry)] 10::I):=by
 refine Ce0 Tryz.func106 C C ?_
 refine Aj (Ga C (Ah (Aj (Ge1 (Eff.makeMap C) λmr1=>?_))))
 refine Ge0 (Dt Cc Bo C C C C C am) ?_
 refine Ge0 (Dt Cc Bo C C C C C am) ?_
 refine Ge0 (Dt Cc Bo C C C C C am) ?_
 refine Ge0 (Dt Cc Bo C C C C C am) ?_
 refine Ge0 (Dt Cc Bo C C C C C am) ?_
 refine Ge0 (Dt Cc Bo C C C C C am) ?_
 refine Ge0 (Dt Cc Bo C C C C C am) ?_
 refine Ge0 (Dt Cc Bo C C C C C am) ?_
 refine Ge0 (Dt Cc Bo C C C C C am) ?_
 refine Ge0 (Dt Cc Bo C C C C C am) ?_
 exact Gm C (Ga C (Ah (Az (Ba C C (mp mr1 [({key:=e7 1,val:= .func (.func 178) #[] #[],born:=0}:MapEntry),({key:=e7 2,val:= .func (.func 181) #[] #[],born:=1}:MapEntry),({key:=e7 3,val:= .func (.func 182) #[] #[],born:=2}:MapEntry),({key:=e7 4,val:= .func (.func 184) #[] #[],born:=3}:MapEntry),({key:=e7 5,val:= .func (.func 185) #[] #[],born:=4}:MapEntry),({key:=e7 6,val:= .func (.func 187) #[] #[],born:=5}:MapEntry),({key:=e7 7,val:= .func (.func 189) #[] #[],born:=6}:MapEntry),({key:=e7 8,val:= .func (.func 191) #[] #[],born:=7}:MapEntry),({key:=e7 9,val:= .func (.func 192) #[] #[],born:=8}:MapEntry),({key:=e7 10,val:= .func (.func 193) #[] #[],born:=9}:MapEntry)] 10::I) Bv ⟨mr1,rfl,rfl⟩))))
set_option maxHeartbeats 1000000 in
theorem Ask8_ok{nd kd wd mo num den T0:Int}{ea:Option Addr}{ec:Nat}{es:List Ev}(hl:Sl κ I (.slice ea es.length ec) es)(hH:HistOk nd kd wd mo es)(hlen:es.length<=19)(hf:FrV ⟨num,den⟩)(hT0:∀tv ok,FirstP kd wd mo es (reachQ nd kd wd mo es num den) tv ok->tv=T0/\ok=true)(ht0:0<=T0/\T0<=1048576)(hT:TabRd κ I 0 tzCells):eu prog κ 56 [e7 nd,.slice ea es.length ec,.agg #[e7 kd,e7 wd,e7 mo],.agg #[e7 8,e7 0,e7 0,e7 0,.slice none 0 0,e7 num,e7 den]] I (λr J=>∃a c B a2 c2 parts N D E,r = .tuple #[.agg #[.bool true,e7 0,e7 T0,.slice a (eo B).length c,e7 N,e7 D,.slice none 0 0,.slice none 0 0,.slice none 0 0,e7 E,.slice a2 (parts:List Int).length c2],e7 0]/\(BestR nd (atG kd wd mo es T0) N D B/\SplitB nd (atG kd wd mo es T0) N D E parts)/\J=vc 3 (.slice a (eo B).length c) (eo B)::vc 3 (.slice a2 parts.length c2) parts::I):=by
 refine Ce4 Tryz.func56 C C ?_
 refine Aj (Ge1 (Bg (cs:=[_,_,_]) C C C) λb1=>Ge1 (Bg (cs:=[_,_,_,_,_,_,_]) C C C) λb2=>Ge1 (A9 ty90 C) λb3=>Ga C (Ah (Au (Aj (Gm C (Gm C (Gl3 ty31 ?_)))))))
 refine Gc0 (Am call97 C C (ACheck_ok (nd:=nd) (kd:=kd) (wd:=wd) (mo:=mo) (Bj hl))) ?_
 refine Ga C (Ah (Aj (Gm C (Gr (Bx C C) (Ah (Av (S7 17 10 8 7 6 0 1 C C C C C C C) (Bd C (λc17=>?_) (λc17=>?_))))))))
 ·exact absurd (slideE_zeroH hH) c17
 ·refine A4 (Ai (Au (Aj (Gl7 ty71 ?_))))
  refine Gm C (Gc0 (Am call105 C C (QCheck8_ok (n:=nd) hf)) ?_)
  refine Ga C (Ah (Aj (Gm C (Gr (Bx C C) (Ah (Bd C (λc24=>?_) (λc24=>?_)))))))
  ·exact absurd rfl c24
  ·refine A4 (Ai (Au (Bt mixed (C9 (e8 b2 [e7 8,e7 0,e7 0,e7 0,.slice none 0 0,e7 num,e7 den] 71::e8 b1 [e7 kd,e7 wd,e7 mo] 31::I) 12 (Dr 1 C (Ab fld71_0 C) (Dr 2 C (As ef) ?_))))))
   refine Dr 4 C (Af C) (Dr 5 C (Af C) (Dr 6 C (Be (vs:=[_,_,_]) ty31) ?_))
   refine Dr 7 C (Bc (cells:=[_,_,_,_,_]) ty163 Tryz.underlying163 pl163 C C) (Dr 8 C (Be (vs:=[_,_,_,_,_,_,_]) ty71) ?_)
   refine Ds1 0 (Se C (Am call106 C C Answers_ok) ?_)
   rintro _ _ ⟨_,_,⟨mp4,rfl,rfl⟩,rfl,rfl⟩
   refine ⟨A5,?_⟩
   refine Ds1 3 (Sr C (Df (i:=7) Cc Bo C C C mm C) A5 ?_)
   refine Ds1 9 (Se C (C0 call191 C C C (AnsFirst_ok (nd:=nd) (kd:=kd) (wd:=wd) (mo:=mo) (num:=num) (den:=den) (T0:=T0) (ea:=ea) (ec:=ec) (es:=es) (Bj hl) hH hlen hf hT0 ht0 (Bw hT Ay))) ?_)
   rintro _ _ ⟨_,_,⟨ad5,cp6,BB7,ad8,cp9,pt10,NN11,DD12,EE13,rfl,⟨hBR,hSB⟩,rfl⟩,rfl,rfl⟩
   refine ⟨A5,?_⟩
   refine Ds1 10 (Se0 C (B4 (cs:=[_,_,_,_,_,_,_,_,_,_,_]) (vs:=[_,_,_,_,_,_,_,_,_,_,_]) (cs':=[_,_,_,_,_,_,_,_,_,_,_]) ty90) ?_)
   exact Dr 11 C (Bb C) (Dz (Ai (Av (S2 9 8 C C) (Az (D3 C ty90 C C mm C (vc 3 (.slice ad5 (eo BB7).length cp6) (eo BB7)::vc 3 (.slice ad8 pt10.length cp9) pt10::I) Bv ⟨ad5,cp6,BB7,ad8,cp9,pt10,NN11,DD12,EE13,rfl,⟨hBR,hSB⟩,rfl⟩)))))
set_option maxHeartbeats 1000000 in
theorem Awake43_ok(hT:TabRd κ I 0 tzCells):eu prog κ 41 [] I (λr J=>r = .bool true/\I=J):=by
 refine Ce0 Tryz.func41 C C ?_
 refine Aj (Ga C (Ah (Aj (Gr (Bc (cells:=[_,_,_,_,_,_,_]) ty108 Ee pl108 C C) (Ge1 (Cj (α:=Ev) (cs:=[e7 1,e7 5,e7 0,e7 1,e7 1,e7 0,e7 1]) (xs:=[⟨1,5,0,1,1,0,1⟩]) Bh ty108 C C dc dc C kr C C) λad1=>?_)))))
 refine Ga C (Ah (Aj (Gm C (Gr (Bc (cells:=[_,_,_]) ty31 Dk pl31 C C) (Gr (Bc (cells:=[_,_]) ty40 B0 pl40 C C) (Gr (Bc (cells:=[_,_,_,_,_,_,_]) ty71 Tryz.underlying71 pl71 C C) (G.e (Am call56 C C (Ask8_ok (nd:=3) (kd:=1) (wd:=0) (mo:=0) (num:=1) (den:=2) (T0:=5) (ea:=ad1) (ec:=1) (es:=([⟨1,5,0,1,1,0,1⟩]:List Ev)) Bk hist_B dc ⟨by decide,by decide,by decide,by decide,by decide⟩ first_B dc (Bw hT Ay))) ?_)))))))
 rintro _ _ ⟨_,_,⟨ad2,cp3,BB4,ad5,cp6,pt7,NN8,DD9,EE10,rfl,⟨hBR,hSB⟩,rfl⟩,rfl,rfl⟩
 refine Gm C (Gr (Ax C C) (Gr (Ax C C) (Ge1 (A9 ty90 C) λb11=>Ge0 (B4 (cs:=[_,_,_,_,_,_,_,_,_,_,_]) (vs:=[_,_,_,_,_,_,_,_,_,_,_]) (cs':=[_,_,_,_,_,_,_,_,_,_,_]) ty90) ?_)))
 rw [at_B] at hBR
 obtain ⟨hBl,hN1,hD2⟩:=bestB hBR
 refine Ga C (Ah (Av (S2 3 2 C C) (Aj (Gm C (Gr (Bl C C) (Gm C (Bs (d:=16) C (λg16=>?_) (λg16=>?_))))))))
 ·refine e9 (Ab fld90_0 C) (e9 (As ty4) ?_)
  refine Gr (Ap C C) (Gm C (e9 (Ab fld90_2 C) (e9 (As ef) ?_)))
  refine e9 (Bl C C) (Gr (Ap C C) (Gm C (Bs (d:=25) C (λg25=>?_) (λg25=>?_))))
  ·refine e9 (Ab fld90_3 C) (e9 (As ty22) ?_)
   refine Et (Cz C C C) (Cj (α:=Int) (cs:=[_,_]) (xs:=[0,1]) Ad ef C C dc dc C C C C) ?_
   rintro _ _ ⟨ad12,rfl,rfl⟩
   refine Et (Cz C C C) (Am call61 C C (Cmp_ok Bk Bk)) ?_
   rintro _ _ ⟨_,_,⟨rfl,rfl⟩,rfl,rfl⟩
   refine e9 (Bl C C) (Gr (Ap C C) (Gm C (Bs (d:=32) C (λg32=>?_) (λg32=>?_))))
   ·refine e9 (Ab fld90_4 C) (e9 (Be (vs:=[_,_]) ty40) ?_)
    exact e9 (Bc (cells:=[_,_]) ty40 B0 pl40 C C) (e9 (Runs.eqlT (α:=Fr) (a:=(⟨NN8,DD9⟩:Fr)) (b:=(⟨1,2⟩:Fr)) eqt40 C C) (Gr (Ap C C) (Ga C (Ah (Av (S1 0 C) (Az (Ba C C I Ay ⟨by rw [decide_eq_true (by rw [hN1,hD2])],rfl⟩)))))))
   ·exact absurd ((cmpL_eq _ _).2 hBl) g32
  ·exact absurd rfl g25
 ·exact absurd rfl g16
set_option maxHeartbeats 1000000 in
theorem Some43_base{κ:Ctx}{I:List Item}{b:Nat}{lv:Value}{ls:List Int}{i:Int}(hl:∀q,Sl κ (deck b lv q::I) lv ls)(h0:0<=i)   :
    eu prog κ 42 [.pointer (some ⟨b,0,none⟩)] (e8 b [lv,e7 i] 125::I) (λr J=>∃y:Int×(Option Addr)×Nat×(List Ev)×Int×Int×Int×Int,((r = .tuple #[e7 y.1,.slice y.2.1 y.2.2.2.1.length y.2.2.1,.agg #[e7 y.2.2.2.2.1,e7 y.2.2.2.2.2.1,e7 y.2.2.2.2.2.2.1]]/\HistOk y.1 y.2.2.2.2.1 y.2.2.2.2.2.1 y.2.2.2.2.2.2.1 y.2.2.2.1/\y.2.2.2.1.length<=12/\(2<=y.1/\y.1<=6))/\0<=y.2.2.2.2.2.2.2)/\J=[vc 108 (.slice y.2.1 y.2.2.2.1.length y.2.2.1) y.2.2.2.1]++deck b lv y.2.2.2.2.2.2.2::I):=by
 refine Ce1 Tryz.func42 C C ?_
 refine Aj (Ga C (Ga C (Ge1 (A9 ty31 C) λb1=>Ah (Aj (Gm C (G.e (Am call19 C C (Next_ok (by repeat (first|exact AtF.head _ _|apply AtF.tail)) (Ce (hl _) Ay) om om)) ?_))))))
 rintro _ _ ⟨_,_,⟨x2,i3,rfl,hx2,hi3,rfl⟩,rfl,rfl⟩
 refine Gr (Rad C C) (Ga C (Ah (Aj (Gm C (Gm C (Gm C (G.e (Am call20 C C (MkEvents_at (by repeat (first|exact AtF.head _ _|apply AtF.tail)) (λ_=>Ce (hl _) Ay) om  om om)) ?_)))))))
 rintro _ _ ⟨_,_,⟨⟨ad4,cp5,es6,i7⟩,⟨⟨rfl,hses6⟩,hi7⟩,rfl⟩,rfl,rfl⟩
 have hi7:0<=i7:=hi7
 dsimp only at hses6
 refine Gm C (G.e (Am call21 C C (MkWindowV_at (by repeat (first|exact AtF.head _ _|apply AtF.tail)) (λ_=>Ce (hl _) Ay) om  )) ?_)
 rintro _ _ ⟨_,_,⟨⟨kd8,wd9,mo10,i11⟩,⟨⟨rfl,hwkd8⟩,hi11⟩,rfl⟩,rfl,rfl⟩
 have hi11:0<=i11:=hi11
 refine Ga C (Ga C (Ge0 (Es3_3 ty31) ?_))
 exact Ah (Av (S3 3 2 4 C C C) (Az (V.retttc C ty31 C C C mm C (vc 108 (.slice ad4 es6.length cp5) (es6)::e8 b [lv,e7 i11] 125::I) Bv ⟨(2+x2,ad4,cp5,es6,kd8,wd9,mo10,i11),⟨⟨rfl,⟨hses6.1.st om om,hwkd8⟩,by show es6.length<=12;have h9:=hses6.2;omega,by show 2<=2+x2/\2+x2<=6;omega⟩,by show 0<=i11;omega⟩,rfl⟩)))
theorem Some43_at{κ:Ctx}{I:List Item}{F:Item->List Item}{b:Nat}{lv:Value}{ls:List Int}{i:Int}(hat:AtF I (deck b lv i) F)(hl:∀q,Sl κ (F (deck b lv q)) lv ls)(h0:0<=i)   :
  eu prog κ 42 [.pointer (some ⟨b,0,none⟩)] I λr J=>∃y:Int×(Option Addr)×Nat×(List Ev)×Int×Int×Int×Int,((r = .tuple #[e7 y.1,.slice y.2.1 y.2.2.2.1.length y.2.2.1,.agg #[e7 y.2.2.2.2.1,e7 y.2.2.2.2.2.1,e7 y.2.2.2.2.2.2.1]]/\HistOk y.1 y.2.2.2.2.1 y.2.2.2.2.2.1 y.2.2.2.2.2.2.1 y.2.2.2.1/\y.2.2.2.1.length<=12/\(2<=y.1/\y.1<=6))/\0<=y.2.2.2.2.2.2.2)/\J=[vc 108 (.slice y.2.1 y.2.2.2.1.length y.2.2.1) y.2.2.2.1]++F (deck b lv y.2.2.2.2.2.2.2):=
 Ej (Post:=λr (y:Int×(Option Addr)×Nat×(List Ev)×Int×Int×Int×Int)=>(r = .tuple #[e7 y.1,.slice y.2.1 y.2.2.2.1.length y.2.2.1,.agg #[e7 y.2.2.2.2.1,e7 y.2.2.2.2.2.1,e7 y.2.2.2.2.2.2.1]]/\HistOk y.1 y.2.2.2.2.1 y.2.2.2.2.2.1 y.2.2.2.2.2.2.1 y.2.2.2.1/\y.2.2.2.1.length<=12/\(2<=y.1/\y.1<=6))/\0<=y.2.2.2.2.2.2.2) (Z:=λy:Int×(Option Addr)×Nat×(List Ev)×Int×Int×Int×Int=>[vc 108 (.slice y.2.1 y.2.2.2.1.length y.2.2.1) y.2.2.2.1]) (X:=λy:Int×(Option Addr)×Nat×(List Ev)×Int×Int×Int×Int=>deck b lv y.2.2.2.2.2.2.2) hat λJ _ hF=>Some43_base (λq=>(hl q).fit (hF _)) h0  
section
variable {nd kd wd mo t:Int}{es:List Ev}
theorem hist_up(h:HistOk nd kd wd mo es)(t:Int):HistOk nd kd wd mo (es.filter (upT t)):=by
 obtain ⟨k,hk,h1,h2⟩:=h.st.cutAt t
 rw [up_take (λi hi _=>h1 i hi) h2]
 exact ⟨h.st.take k,h.win⟩
theorem atG_cnt(h:HistOk nd kd wd mo es)(ht:0<=t/\t<=1048576)(hk:kd=3):((atG kd wd mo es t).length:Int)<=mo:=by
 unfold atG
 rw [edgesK_len,atK_up h ht,if_neg om,if_pos hk]
 have h':=hist_up h t
 subst hk
 rcases checkW_cases h.win with ⟨h1,_⟩|⟨h1,_⟩|⟨_,_,hm⟩
 ·exact absurd h1 dc
 ·exact absurd h1 dc
 ·have hC:=CntB.all h'.st hm.1 (es.filter (upT t)).length (Nat.le_refl _)
  rw [List.take_length] at hC
  have:=hC.len
  rw [hC.st] at this
  exact this
end
end Go.Sl
namespace Go.Sl
section
variable {P:Program}{κ:Ctx}{N:Frm}{Q:Exit->Act->World->Prop}{L:Env}{I J:List Item}{ops:Array Oper}{l m:Nat}
theorem op_round{i:Nat}{K K':Act->World->Prop}{a:Act}{w:World}(hq:¬LetsOut Q)(hnd:∀o,ops[i]? = some o->∀c,o.op ≠ .defer c)(hK:∀a w,K a w->K' a w)(h:wpOp P ops Q i K a w):wpOpIn (Fence.wide.inRound l) m P ops Q i K' a w:=by
 unfold wpOp at h
 unfold wpOpIn
 cases ho:ops[i]? with
 |none=>rw [ho] at h;exact hK _ _ h
 |some o=>
  rw [ho] at h
  simp only at h ⊢
  by_cases hw:Region.wanted o (yielded ops a.tmps)=true
  ·rw [if_pos hw] at h ⊢
   rcases h with h|h
   ·refine ⟨λ_ _=>trivial,?_⟩
    rw [Fence.inRound_round,Oper.semAt_some _ _ _ (hnd o ho)]
    exact upon_round hq hK _ h
   ·exact absurd h.2 hq
  ·rw [if_neg hw] at h ⊢
   exact ⟨λ_ _=>trivial,hK _ _ h⟩
theorem any_round(hq:¬LetsOut Q)(hnd:∀o∈ops.toList,∀c,o.op ≠ .defer c):∀(fuel:Nat) (listed:Array Bool) (a:Act) (w:World),wpAny P .any ops Q fuel listed a w->wpAnyIn (Fence.wide.inRound l) m P .any ops Q fuel listed a w
 |0,listed,a,w,h=>h
 |fuel+1,listed,a,w,h=>⟨h.1,λi hi=>op_round hq (λo ho=>hnd o (by have:=Array.mem_of_getElem? ho;simpa using this)) (λa' w' h'=>any_round hq hnd fuel _ a' w' h') (h.2 i hi)⟩
theorem WR.drawn{id:Nat}{ls:List Oper}(hm:P.follows .mixedOrders=true)(hq:∀a w,¬Q .outgrown a w)(hd:noDefer ls=true)(h:A P κ N ls.toArray Q ls.toArray.size (Array.replicate ls.toArray.size false) L I):WR P κ N l m (.region id ls.toArray true) Q L I:=
 λa w ha hs=>wpIn_region_any hm (any_round (λ⟨a,w,h⟩=>hq a w h) (by simpa using noDefer_all hd) _ _ a _ (h a _ ha hs.drew))
end
end Go.Sl
namespace Go.Sl
open Go.Proofs
set_option maxRecDepth 4000
def togQ(nd kd wd mo:Int)(es:List Ev)(xs:List Int)(lv t:Int):Prop:=∀x∈xs,x∈commG nd (atG kd wd mo es t) (e_ xs 0) lv
set_option maxHeartbeats 2000000 in
theorem ATog_ok{κ:Ctx}{I:List Item}{nd kd wd mo lv:Int}{ea sa:Option Addr}{ec sc:Nat}{es:List Ev}{xs:List Int}(hl:Sl κ I (.slice ea es.length ec) es)(hs:Sl κ I (.slice sa xs.length sc) xs)(hH:HistOk nd kd wd mo es)(hlen:es.length<=19)(hx:0<xs.length/\xs.length<=64)(hval:ValidP xs nd)(hT:TabRd κ I 0 tzCells):eu prog κ 50 [e7 nd,.slice ea es.length ec,.agg #[e7 kd,e7 wd,e7 mo],.slice sa xs.length sc,e7 lv] I (λr J=>∃tv ok,r = .tuple #[e7 tv,.bool ok,e7 0]/\FirstP kd wd mo es (togQ nd kd wd mo es xs lv) tv ok/\I=J):=by
 refine eu.enterM (L:=[(0,e7 nd),(1,.slice ea es.length ec),(2,.agg #[e7 kd,e7 wd,e7 mo]),(3,.slice sa xs.length sc),(4,e7 lv)]) Tryz.func50 C C C C ?_
 refine Aj (Ge1 (Bg (cs:=[_,_,_]) C C C) λb1=>Ge1 (Bg (cs:=[_]) C C C) λb2=>Ge1 (Bg (cs:=[_]) C C C) λb3=>Ge1 (A9 ef C) λb4=>Ge1 (A9 ty4 C) λb5=>Ge1 (A9 ty36 C) λb6=>Ah (Au (Aj (Gm C (Gm C (Gl3 ty31 ?_))))))
 refine Gc0 (Am call97 C C (ACheck_ok (nd:=nd) (kd:=kd) (wd:=wd) (mo:=mo) (Bj hl))) ?_
 refine Ga C (Ah (Av (S9 13 12 11 10 9 8 7 0 1 C C C C C C C C C) (Aj (Gm C (Gr (Bx C C) (Ah (Bd C (λc23=>?_) (λc23=>?_))))))))
 ·exact absurd (slideE_zeroH hH) c23
 ·refine A4 (Ai (Au (Aj (Gl ty22 ?_))))
  refine Gm C (Gc0 (Am call88 C C (NValid_ok (Bj hs) nd)) ?_)
  refine Gr (D5 C) (Gm C (Bs (d:=29) C (λg29=>?_) (λg29=>?_)))
  ·exact absurd hval (by first|assumption|simpa using g29)
  ·refine e9 (As ty22) ?_
   refine e9 (Bz Ad C) (e9 (Bl C C) (Gr (Al C C) (Ah (Av (S9 33 12 11 10 9 8 7 0 1 C C C C C C C C C) (Bd C (λc33=>?_) (λc33=>?_))))))
   ·exact absurd c33 (by first|assumption|omega|simp)
   ·refine A4 (Ai (Au (Aj (Gm C (Gm C (Gl3 ty31 ?_))))))
    refine G.e (Am call98 C C Frames_ok) ?_
    rintro _ _ ⟨_,_,⟨qb7,qb8,qb9,rfl,rfl⟩,rfl,rfl⟩
    refine Ah (A6 (W.fit (J:=e8 b4 [e7 0] 3::e8 b5 [.bool false] 4::e8 b6 [e7 0] 36::e8 qb9 [e7 kd,e7 wd,e7 mo] 31::e8 qb8 [.slice ea es.length ec] 28::e8 qb7 [e7 nd] 3::e8 b3 [e7 lv] 3::e8 b2 [.slice sa xs.length sc] 22::e8 b1 [e7 kd,e7 wd,e7 mo] 31::I) Bv ?_))
    refine W.rangeFnB (gf:=165) (lb:=[.pointer (some ⟨qb7,0,none⟩),.pointer (some ⟨qb8,0,none⟩),.pointer (some ⟨qb9,0,none⟩)]) C call165 λDm l rc hr1 hr2 hr3 hr4 hta=>?_
    refine (Frames1_ok (I:=e8 qb9 [e7 kd,e7 wd,e7 mo] 31::e8 qb8 [.slice ea es.length ec] 28::e8 qb7 [e7 nd] 3::e8 b3 [e7 lv] 3::e8 b2 [.slice sa xs.length sc] 22::e8 b1 [e7 kd,e7 wd,e7 mo] 31::I) (σ:=Unit) (τ:=Int) (l:=l) (Lf:=λs=>[recI l rc,dfrI Dm,e8 b4 [e7 0] 3,e8 b5 [.bool false] 4,e8 b6 [e7 0] 36]) (Pf:=λfst j s=>(∀i:Nat,i<j->¬(togQ nd kd wd mo es xs lv) (e_ (allE kd wd mo es) i).tm)) (Xf:=λs=>[recI l {rc with state:= .done,pending:=some .ret},dfrI Dm,e8 b4 [e7 s] 3,e8 b5 [.bool true] 4,e8 b6 [e7 0] 36]) (Qf:=λs=>(FirstYes kd wd mo es (togQ nd kd wd mo es xs lv) s)) (s0:=()) hH hlen (C2 mm) (C2 mm) (C2 mm) (Bj hl) (λi h=>absurd h (Nat.not_lt_zero i)) ?_).mono ?_
    ·rintro T hTI fst j tm own j1 ga gc hM _ hp
     have hq:(∀i:Nat,i<j->¬(togQ nd kd wd mo es xs lv) (e_ (allE kd wd mo es) i).tm):=hp
     have hbq0:BlkRd κ T b2 [.slice sa xs.length sc] 22:=(C2 (I:=e8 qb9 [e7 kd,e7 wd,e7 mo] 31::e8 qb8 [.slice ea es.length ec] 28::e8 qb7 [e7 nd] 3::e8 b3 [e7 lv] 3::e8 b2 [.slice sa xs.length sc] 22::e8 b1 [e7 kd,e7 wd,e7 mo] 31::I) mm).fit hTI
     have hbq1:BlkRd κ T b3 [e7 lv] 3:=(C2 (I:=e8 qb9 [e7 kd,e7 wd,e7 mo] 31::e8 qb8 [.slice ea es.length ec] 28::e8 qb7 [e7 nd] 3::e8 b3 [e7 lv] 3::e8 b2 [.slice sa xs.length sc] 22::e8 b1 [e7 kd,e7 wd,e7 mo] 31::I) mm).fit hTI
     have hTT:TabRd κ T 0 tzCells:=(Bw (J:=e8 qb9 [e7 kd,e7 wd,e7 mo] 31::e8 qb8 [.slice ea es.length ec] 28::e8 qb7 [e7 nd] 3::e8 b3 [e7 lv] 3::e8 b2 [.slice sa xs.length sc] 22::e8 b1 [e7 kd,e7 wd,e7 mo] 31::I) hT Ay).fit hTI
     have hmg:=mom_graph hH hM
     have hGr:GrOk nd (edgesK (eh ((allE kd wd mo es).take j1))):=by rw [hmg];exact hH.graph tm
     have hsT:Sl κ T (.slice sa xs.length sc) xs:=(Bj hs).fit hTI
     refine YieldB.fit (J:=recI l rc::vc 135 (.slice ga (edgesK (eh ((allE kd wd mo es).take j1))).length gc) (edgesK (eh ((allE kd wd mo es).take j1)))::dfrI Dm::e8 b4 [e7 0] 3::e8 b5 [.bool false] 4::e8 b6 [e7 0] 36::T) Bv ?_
     refine YieldB.mkA (L₀:=[(39,.agg #[e7 nd,.slice ga (edgesK (eh ((allE kd wd mo es).take j1))).length gc]),(38,.agg #[e7 tm,.bool own]),(37,.func (.func 165) #[] #[.pointer (some ⟨qb7,0,none⟩),.pointer (some ⟨qb8,0,none⟩),.pointer (some ⟨qb9,0,none⟩)]),(36,.agg #[e7 kd,e7 wd,e7 mo]),(35,.slice ea es.length ec),(34,e7 nd),(33,.bool (decide (((xs.length:Nat):Int)=0))),(12,.pointer (some ⟨b6,0,none⟩)),(11,.pointer (some ⟨b5,0,none⟩)),(10,.pointer (some ⟨b4,0,none⟩)),(9,.pointer (some ⟨b3,0,none⟩)),(8,.pointer (some ⟨b2,0,none⟩)),(7,.pointer (some ⟨b1,0,none⟩)),(0,e7 nd),(1,.slice ea es.length ec)]) (by rw [hr2];rfl) hr3 hr4 (by rw [hr2,fold_two];exact ag_two hta C C) ?_
     refine Ey ?_
     refine Dq (λ_ _ h=>False.elim h) C ?_
     refine Ge1 (A9 ty153 C) λb10=>Ge0 (Cs ty153) ?_
     refine Bf (D6 ?_)
     refine Fb (L':=[(14,_),(39,_),(12,_),(11,_),(10,_),(9,_),(8,_)]) (Aa C (Aa C (Aa C (Aa C (Aa C (Aa C (Aa C Bq))))))) ?_
     refine Dq (λ_ _ h=>False.elim h) C ?_
     refine Ge1 (A9 ty48 C) λb11=>Ge0 (Cs ty48) ?_
     refine Bf (V.begin (e8 b11 [e7 nd,.slice ga (edgesK (eh ((allE kd wd mo es).take j1))).length gc] 48::e8 b10 [e7 tm,.bool own] 153::vc 135 (.slice ga (edgesK (eh ((allE kd wd mo es).take j1))).length gc) (edgesK (eh ((allE kd wd mo es).take j1)))::dfrI Dm::e8 b4 [e7 0] 3::e8 b5 [.bool false] 4::e8 b6 [e7 0] 36::T) Bv hr1 ?_)
     refine WR.block ?_
     refine Ey ?_
     refine WR.drawn mixed (λ_ _ h=>False.elim h) C ?_
     refine C7 11 (Dr 0 C (Be (vs:=[_,_]) ty48) ?_)
     refine Dr 1 C (C6 ty22 C (C5 hbq0 Ay) C) (Dr 2 C (A2 (α:=Int) (xs:=xs) Ad ef C C (Bj hsT) om om) (Dr 3 C (B3 (xs:=xs) ef C (Bj hsT) om om) (Dr 4 C (C6 ef C (C5 hbq1 Ay) C) (Ds1 5 (Se C (Am call59 C C (Comm_ok (nd:=nd) (v:=e_ xs 0) (lv:=lv) Bk hGr (by have h:=(hval 0 om).1;exact h) (Bw hTT Ay))) ?_)))))
     rintro _ _ ⟨_,_,⟨ad12,cp13,rfl,rfl⟩,rfl,rfl⟩
     refine ⟨A5,?_⟩
     refine Dr 6 C (Af C) (Dr 7 C (Ax C C) (Dr 8 C (Ax C C) (Dr 9 C (Bb C) (Dr 10 C (Bb C) (Dz (D6 ?_))))))
     refine Fb (L':=[(17,_),(16,_),(14,_),(12,_),(11,_),(10,_),(8,_)]) (Aa C (Aa C (Aa C (Aa C (Aa C (Aa C (Aa C Bq))))))) ?_
     refine Ey ?_
     refine Dq (λ_ _ h=>False.elim h) C ?_
     refine Gf fld153_1 C (Gl ty4 ?_)
     refine Gm C (Ck (d:=51) C (λg51=>?_) (λg51=>?_))
     ·refine e9 (Af C) (e9 (Bl C C) (Gr (Ap C C) (Gm C (Bs (d:=55) C (λg55=>?_) (λg55=>?_)))))
      ·refine e9 (C6 ty22 C (C5 hbq0 Ay) C) (e9 (Af C) (Et (Cz C C C) (Am call102 C C (WithinI_ok (Bj hsT) Bk om (by have:=rchG_len nd (edgesK (eh ((allE kd wd mo es).take j1))) [e_ xs 0] (coreK nd (edgesK (eh ((allE kd wd mo es).take j1))) lv);show (rchG _ _ _ _).length<=_;omega))) ?_))
       rintro _ _ ⟨_,_,⟨rfl,rfl⟩,rfl,rfl⟩
       refine Gr (Ap C C) (Bf (D6 ?_))
       refine Fb (L':=[(59,_),(14,_),(12,_),(11,_),(10,_)]) (Aa C (Aa C (Aa C (Aa C (Aa C Bq))))) ?_
       refine WR.ite C (λc59=>?_) (λc59=>?_)
       ·refine Ey ?_
        refine Dq (λ_ _ h=>False.elim h) C ?_
        refine Gf fld153_0 C (Gl ef ?_)
        refine Ge0 (B4 (cs:=[_]) (vs:=[_]) (cs':=[_]) ef) ?_
        refine Ge0 (B4 (cs:=[_]) (vs:=[_]) (cs':=[_]) ty4) ?_
        refine Ge0 (B4 (cs:=[_]) (vs:=[_]) (cs':=[_]) ty36) ?_
        refine Bf (D6 ?_)
        refine WR.ret ?_
        exact A3 (V.roundRet (dfrI Dm::e8 b4 [e7 tm] 3::e8 b5 [.bool true] 4::e8 b6 [e7 0] 36::T) Bv (.inr ⟨rfl,(tm),(fi_yes hH hM hq g51 (by unfold togQ;rw [←hmg];exact c59)),rfl⟩))
       ·refine WR.skip ?_
        exact Ak (E5 (dfrI Dm::e8 b4 [e7 0] 3::e8 b5 [.bool false] 4::e8 b6 [e7 0] 36::T) Bv hr1 (.inl ⟨rfl,(),(fi_next hM hq (by first|exact λh=>absurd (g51.symm.trans h) dc|exact λ_ h=>c59 (by unfold togQ at h;rw [←hmg] at h;exact h))),rfl⟩))
      ·exact absurd rfl g55
     ·refine eb (eb (Gr (Al C C) (Gm C (eb (eb (eb (Gr (Al C C) (Bf (D6 ?_)))))))))
      refine Fb (L':=[(59,_),(14,_),(12,_),(11,_),(10,_)]) (Aa C (Aa C (Aa C (Aa C (Aa C Bq))))) ?_
      refine WR.no C ?_
      refine WR.skip ?_
      exact Ak (E5 (dfrI Dm::e8 b4 [e7 0] 3::e8 b5 [.bool false] 4::e8 b6 [e7 0] 36::T) Bv hr1 (.inl ⟨rfl,(),(fi_next hM hq (by first|exact λh=>absurd (g51.symm.trans h) dc|exact λ_ h=>c59 (by unfold togQ at h;rw [←hmg] at h;exact h))),rfl⟩))
    rintro v K ⟨rfl,(⟨_,hp,rfl⟩|⟨tv,hp,rfl⟩)⟩
    ·have hq:(∀i:Nat,i<(allE kd wd mo es).length->¬(togQ nd kd wd mo es xs lv) (e_ (allE kd wd mo es) i).tm):=hp
     refine .inl ⟨_,rfl,?_⟩
     show V κ _ _ .normal ([(37,.func (.func 165) #[] #[.pointer (some ⟨qb7,0,none⟩),.pointer (some ⟨qb8,0,none⟩),.pointer (some ⟨qb9,0,none⟩)]),(36,.agg #[e7 kd,e7 wd,e7 mo]),(35,.slice ea es.length ec),(34,e7 nd),(33,.bool (decide (((xs.length:Nat):Int)=0))),(12,.pointer (some ⟨b6,0,none⟩)),(11,.pointer (some ⟨b5,0,none⟩)),(10,.pointer (some ⟨b4,0,none⟩)),(9,.pointer (some ⟨b3,0,none⟩)),(8,.pointer (some ⟨b2,0,none⟩)),(7,.pointer (some ⟨b1,0,none⟩)),(0,e7 nd),(1,.slice ea es.length ec)]:Env) (dfrI Dm::e8 b4 [e7 0] 3::e8 b5 [.bool false] 4::e8 b6 [e7 0] 36::e8 qb9 [e7 kd,e7 wd,e7 mo] 31::e8 qb8 [.slice ea es.length ec] 28::e8 qb7 [e7 nd] 3::e8 b3 [e7 lv] 3::e8 b2 [.slice sa xs.length sc] 22::e8 b1 [e7 kd,e7 wd,e7 mo] 31::I)
     refine Ak (Ai (Aj (Ge0 (B4 (cs:=[_]) (vs:=[_]) (cs':=[_]) ef) ?_)))
     refine Ge0 (B4 (cs:=[_]) (vs:=[_]) (cs':=[_]) ty4) ?_
     refine Ge0 (B4 (cs:=[_]) (vs:=[_]) (cs':=[_]) ty36) ?_
     refine Ah (Az (V.fit (J:=dfrI Dm::e8 b4 [e7 0] 3::e8 b5 [.bool false] 4::e8 b6 [e7 0] 36::e8 qb9 [e7 kd,e7 wd,e7 mo] 31::e8 qb8 [.slice ea es.length ec] 28::e8 qb7 [e7 nd] 3::e8 b3 [e7 lv] 3::e8 b2 [.slice sa xs.length sc] 22::e8 b1 [e7 kd,e7 wd,e7 mo] 31::I) Bv (V.leave ?_)))
     exact V.retv3 C ef ty4 ty36 C C C mm mm mm I Ay ⟨0,false,rfl,.inr ⟨rfl,rfl,fi_no hq⟩,rfl⟩
    ·have hQ:(FirstYes kd wd mo es (togQ nd kd wd mo es xs lv) tv):=hp
     refine .inr ⟨_,_,rfl,?_⟩
     refine Az (A3 (Ar (V.fit (J:=dfrI Dm::e8 b4 [e7 tv] 3::e8 b5 [.bool true] 4::e8 b6 [e7 0] 36::e8 qb9 [e7 kd,e7 wd,e7 mo] 31::e8 qb8 [.slice ea es.length ec] 28::e8 qb7 [e7 nd] 3::e8 b3 [e7 lv] 3::e8 b2 [.slice sa xs.length sc] 22::e8 b1 [e7 kd,e7 wd,e7 mo] 31::I) Bv (V.leave ?_))))
     exact V.retv3 C ef ty4 ty36 C C C mm mm mm I Ay ⟨tv,true,rfl,.inl ⟨rfl,hQ⟩,rfl⟩
section
variable {n kd wd mo:Int}{es:List Ev}(hH:HistOk n kd wd mo es)(hn:2<=n)(a a2:Option Addr)(c c2:Nat)
include hH hn
end
theorem hist_nil{n kd wd mo:Int}{es:List Ev}(h:HistOk n kd wd mo es):HistOk n kd wd mo []:=⟨⟨h.st.nodes,by simp,λj hj=>absurd hj (Nat.not_lt_zero _),λj hj=>absurd hj (Nat.not_lt_zero _)⟩,h.win⟩
variable {κ:Ctx}{I:List Item}
abbrev frL:List Fr:=[⟨0,1⟩,⟨1,2⟩,⟨2,3⟩,⟨1,1⟩,⟨4,3⟩,⟨3,2⟩,⟨5,4⟩,⟨2,1⟩]
theorem frL_ok:∀x∈frL,FrV x:=by
 have h:∀x∈frL,0<=x.num/\x.num<=1073741824/\1<=x.den/\x.den<=1073741824/\gcdI x.num x.den=1:=by decide
 exact λx hx=>⟨(h x hx).1,(h x hx).2.1,(h x hx).2.2.1,(h x hx).2.2.2.1,(h x hx).2.2.2.2⟩
theorem frL_num:∀x∈frL,x.num<=5:=by decide
theorem MkFrac_base{b:Nat}{lv:Value}{ls:List Int}{i:Int}(hl:∀q,Sl κ (deck b lv q::I) lv ls)(h0:0<=i)   :
    eu prog κ 46 [.pointer (some ⟨b,0,none⟩)] (e8 b [lv,e7 i] 125::I) (λr J=>∃y:Int×Int×Int,((r = .agg #[e7 y.1,e7 y.2.1]/\FrV ⟨y.1,y.2.1⟩/\y.1<=5)/\0<=y.2.2)/\J=[]++deck b lv y.2.2::I):=by
 refine Ce1 Tryz.func46 C C ?_
 refine Aj (Ge1 (A9 ty40 C) λb1=>Ah (Aj (Gr (Bc (cells:=[_,_]) ty40 B0 pl40 C C) (Gr (Bc (cells:=[_,_]) ty40 B0 pl40 C C) (Gr (Bc (cells:=[_,_]) ty40 B0 pl40 C C) (Gr (Bc (cells:=[_,_]) ty40 B0 pl40 C C) (Gr (Bc (cells:=[_,_]) ty40 B0 pl40 C C) (Gr (Bc (cells:=[_,_]) ty40 B0 pl40 C C) (Gr (Bc (cells:=[_,_]) ty40 B0 pl40 C C) (Gr (Bc (cells:=[_,_]) ty40 B0 pl40 C C) (Ge1 (Cj (α:=Fr) (cs:=[e7 0,e7 1,e7 1,e7 2,e7 2,e7 3,e7 1,e7 1,e7 4,e7 3,e7 3,e7 2,e7 5,e7 4,e7 2,e7 1]) (xs:=[⟨0,1⟩,⟨1,2⟩,⟨2,3⟩,⟨1,1⟩,⟨4,3⟩,⟨3,2⟩,⟨5,4⟩,⟨2,1⟩]) Tryz.underlying76 ty40 C C dc dc C kr C C) λad2=>?_)))))))))))
 refine Ga C (Ah (Aj (Gm C (Gm C (Gm C (Gr (Bz Tryz.underlying76 C) (G.e (Am call19 C C (Next_ok (by repeat (first|exact AtF.head _ _|apply AtF.tail)) (Ce (hl _) Ay) om om)) ?_)))))))
 rintro _ _ ⟨_,_,⟨x3,i4,rfl,hx3,hi4,rfl⟩,rfl,rfl⟩
 refine Gr (A2 (α:=Fr) (xs:=([⟨0,1⟩,⟨1,2⟩,⟨2,3⟩,⟨1,1⟩,⟨4,3⟩,⟨3,2⟩,⟨5,4⟩,⟨2,1⟩]:List Fr)) Tryz.underlying76 ty40 C C Bk om (by first|omega|(simp only [List.length_cons,List.length_nil];omega))) (Gr (B7 (α:=Fr) (xs:=([⟨0,1⟩,⟨1,2⟩,⟨2,3⟩,⟨1,1⟩,⟨4,3⟩,⟨3,2⟩,⟨5,4⟩,⟨2,1⟩]:List Fr)) ty40 C Bk om (by first|omega|(simp only [List.length_cons,List.length_nil];omega))) (Ge0 (Cs ty40) ?_))
 exact Ah (Av (S1 2 C) (Az (Cf C ty40 C mm C (e8 b [lv,e7 i4] 125::I) A5 ⟨((e_ ([⟨0,1⟩,⟨1,2⟩,⟨2,3⟩,⟨1,1⟩,⟨4,3⟩,⟨3,2⟩,⟨5,4⟩,⟨2,1⟩]:List Fr) x3).num,(e_ ([⟨0,1⟩,⟨1,2⟩,⟨2,3⟩,⟨1,1⟩,⟨4,3⟩,⟨3,2⟩,⟨5,4⟩,⟨2,1⟩]:List Fr) x3).den,i4),⟨⟨rfl,frL_ok _ (Cq (xs:=frL) om (by show _<(8:Int);omega)),frL_num _ (Cq (xs:=frL) om (by show _<(8:Int);omega))⟩,by show 0<=i4;omega⟩,rfl⟩)))
theorem MkFrac_at{F:Item->List Item}{b:Nat}{lv:Value}{ls:List Int}{i:Int}(hat:AtF I (deck b lv i) F)(hl:∀q,Sl κ (F (deck b lv q)) lv ls)(h0:0<=i)   :
  eu prog κ 46 [.pointer (some ⟨b,0,none⟩)] I λr J=>∃y:Int×Int×Int,((r = .agg #[e7 y.1,e7 y.2.1]/\FrV ⟨y.1,y.2.1⟩/\y.1<=5)/\0<=y.2.2)/\J=[]++F (deck b lv y.2.2):=
 Ej (Post:=λr (y:Int×Int×Int)=>(r = .agg #[e7 y.1,e7 y.2.1]/\FrV ⟨y.1,y.2.1⟩/\y.1<=5)/\0<=y.2.2) (Z:=λy:Int×Int×Int=>[]) (X:=λy:Int×Int×Int=>deck b lv y.2.2) hat λJ _ hF=>MkFrac_base (λq=>(hl q).fit (hF _)) h0  
theorem one_valid{x n:Int}(h:0<=x/\x<n):ValidP [x] n:=λj hj=>by
 have hj2:j<1:=hj
 obtain rfl:j=0:=by omega
 exact ⟨h,λh=>absurd h dc⟩
theorem MkSome_base{b:Nat}{lv:Value}{ls:List Int}{i:Int}{nodes:Int}(hl:∀q,Sl κ (deck b lv q::I) lv ls)(h0:0<=i)(hn:1<=nodes/\nodes<=64):eu prog κ 49 [.pointer (some ⟨b,0,none⟩),e7 nodes] (e8 b [lv,e7 i] 125::I) (λr J=>∃y:(Option Addr)×Nat×(List Int)×Int,((r = .slice y.1 y.2.2.1.length y.2.1/\ValidP y.2.2.1 nodes/\(0<y.2.2.1.length/\(y.2.2.1.length:Int)<=nodes))/\0<=y.2.2.2)/\J=[vc 3 (.slice y.1 y.2.2.1.length y.2.1) y.2.2.1]++deck b lv y.2.2.2::I):=by
 refine Ce2 Tryz.func49 C C ?_
 refine Aj (Ga C (Ah (Aj (Gm C (Gm C (G.e (Am call28 C C (Set_at (by repeat (first|exact AtF.head _ _|apply AtF.tail)) (λ_=>Ce (hl _) Ay) om om)) ?_))))))
 rintro _ _ ⟨_,_,⟨ad2,cp3,o4,i1,rfl,ho4,hlo4,hi1,rfl⟩,rfl,rfl⟩
 refine Ga C (Ah (Au (Aj (Gm C (Gr (Bz Ad C) (Gr (Bl C C) (Gm C (Bs (d:=12) C (λg12=>?_) (λg12=>?_)))))))))
 ·refine e9 (Af C) (e9 (Ci C C) (Gr (Ap C C) (Ah (Av (S4 15 5 0 1 C C C C) (Bd C (λc15=>?_) (λc15=>?_))))))
  ·refine Aj (Gm C (Gm C (G.e (Am call19 C C (Next_ok (by repeat (first|exact AtF.head _ _|apply AtF.tail)) (Ce (hl _) Ay) om om)) ?_)))
   rintro _ _ ⟨_,_,⟨x5,i6,rfl,hx5,hi6,rfl⟩,rfl,rfl⟩
   refine Ge1 (Cj (α:=Int) (cs:=[_]) (xs:=[x5]) Ad ef C C dc dc C C C C) λad7=>?_
   exact Ga C (Ah (Az (Ar (Ba C C (vc 3 (.slice ad7 1 1) (([x5]:List Int))::e8 b [lv,e7 i6] 125::I) A5 ⟨(ad7,1,([x5]:List Int),i6),⟨⟨rfl,one_valid om,by show 0<1/\((1:Nat):Int)<=nodes;omega⟩,by show 0<=i6;omega⟩,rfl⟩))))
  ·exact A4 (Ai (Aj (Gm C (Ga C (Ah (Az (Ba C C (vc 3 (.slice ad2 o4.length cp3) (o4)::e8 b [lv,e7 i1] 125::I) A5 ⟨(ad2,cp3,o4,i1),⟨⟨rfl,ho4,by show 0<o4.length/\(o4.length:Int)<=nodes;omega⟩,by show 0<=i1;omega⟩,rfl⟩)))))))
 ·exact eb (eb (Gr (Al C C) (Ah (Av (S4 15 5 0 1 C C C C) (Eo C (A4 (Ai (Aj (Gm C (Ga C (Ah (Az (Ba C C (vc 3 (.slice ad2 o4.length cp3) (o4)::e8 b [lv,e7 i1] 125::I) A5 ⟨(ad2,cp3,o4,i1),⟨⟨rfl,ho4,by show 0<o4.length/\(o4.length:Int)<=nodes;omega⟩,by show 0<=i1;omega⟩,rfl⟩)))))))))))))
theorem MkSome_at{F:Item->List Item}{b:Nat}{lv:Value}{ls:List Int}{i:Int}{nodes:Int}(hat:AtF I (deck b lv i) F)(hl:∀q,Sl κ (F (deck b lv q)) lv ls)(h0:0<=i)(hn:1<=nodes/\nodes<=64):eu prog κ 49 [.pointer (some ⟨b,0,none⟩),e7 nodes] I λr J=>∃y:(Option Addr)×Nat×(List Int)×Int,((r = .slice y.1 y.2.2.1.length y.2.1/\ValidP y.2.2.1 nodes/\(0<y.2.2.1.length/\(y.2.2.1.length:Int)<=nodes))/\0<=y.2.2.2)/\J=[vc 3 (.slice y.1 y.2.2.1.length y.2.1) y.2.2.1]++F (deck b lv y.2.2.2):=
 Ej (Post:=λr (y:(Option Addr)×Nat×(List Int)×Int)=>(r = .slice y.1 y.2.2.1.length y.2.1/\ValidP y.2.2.1 nodes/\(0<y.2.2.1.length/\(y.2.2.1.length:Int)<=nodes))/\0<=y.2.2.2) (Z:=λy:(Option Addr)×Nat×(List Int)×Int=>[vc 3 (.slice y.1 y.2.2.1.length y.2.1) y.2.2.1]) (X:=λy:(Option Addr)×Nat×(List Int)×Int=>deck b lv y.2.2.2) hat λJ _ hF=>MkSome_base (λq=>(hl q).fit (hF _)) h0  hn
section
variable {nd kd wd mo lv t:Int}{es:List Ev}{xs:List Int}
theorem first_rng{p:Int->Prop}{t1:Int}{k1:Bool}(hH:HistOk nd kd wd mo es)(h1:FirstP kd wd mo es p t1 k1):(0<=t1/\t1<=1048576)/\(k1=true->p t1):=by
 rcases h1 with ⟨_,⟨e,he,rfl⟩,hp,_⟩|⟨hf,h0,_⟩
 ·exact ⟨(hH.allFit e he).tm,λ_=>hp⟩
 ·exact ⟨by omega,λh=>by rw [hf] at h;cases h⟩
end
end Go.Sl
