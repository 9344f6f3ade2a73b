/- A part of the proofs of statements of this seat: contracts of functions, and the plain laws that they lean on. No conditions. -/
import Derived.Test.YtoagcglbkeomgaaGreatDoorV4
set_option linter.unusedVariables false
set_option linter.unusedSimpArgs false
set_option linter.unusedSectionVars false
namespace Go.Sl
variable{xs:List Int}{E b by' sz:Nat}{z:List Value}{i:Int}
section
variable {P:Program}{κ:Ctx}{N:Frm}{Q:Exit->Act->World->Prop}{L:Env}{I J:List Item}
variable {d:Option Tmp}{ty:TypeId}{ps:String}{af:Array Edge}{gd:Option (Nat×Bool)}
theorem j8.gd5{x:Operand}{T:Nat}(hT:tyF P T=some (sz,false,by',z))(M:er L x=some (.pointer (some ⟨b,0+i.toNat*1,none⟩)))(hb:ab8 κ J b (cells xs) E)(h0:0<=i)(hn:i<xs.length) :
  j8 P κ N ⟨d,.load T x,ty,ps,af,gd⟩ L J (e7<|e_ xs i):=by
 refine j8.fo2 hT M hb ?_
 have:=W1 xs i.toNat 0 (by omega) (by decide)
 rw [show 0+i.toNat*1=i.toNat*Enc.sz Int+0 by show 0+i.toNat*1=i.toNat*1+0;omega,this,bj9 h0 hn];rfl
theorem cv8(xs:List Int)(i:Nat)(n:Int)(h:i<xs.length):(cells xs).take i++[e7 n]++(cells xs).drop (i+1)=cells (xs.set i n):=by
 induction xs generalizing i with
 |nil=>simp at h
 |cons x xs ih=>
  cases i with
  |zero=>rfl
  |succ i=>
   have M:i<xs.length:=by simpa using h
   have e:cells (x::xs)=e7 x::cells xs:=rfl
   rw [e,List.set_cons_succ]
   have e2:cells (x::xs.set i n)=e7 x::cells (xs.set i n):=rfl
   rw [e2,←ih i M];rfl
theorem Eff.setA{x y:Operand}{T:Nat}{ag:Bool}{n:Int}{I':List Item}(hT:tyF P T=some (sz,ag,by',z))(aa:sz=1)(hx:er L x=some (.pointer (some ⟨b,0+i.toNat*1,none⟩)))(hy:er L y=some (e7 n))(h0:0<=i)(hn:i<xs.length)
  (M:At I (e8 b (cells xs) E) (e8 b (cells<|xs.set i.toNat n) E) I') :
  Eff P κ N Q ⟨none,.store T x y,ty,ps,af,gd⟩ L I λL' I''=>L'=L/\I''=I':=by
 have hl:(cells xs).length=xs.length:=by rw [r9];show xs.length*1=_;omega
 refine Eff.store (vs:=[e7 n]) (cs':=cells (xs.set i.toNat n)) hT hx hy C (by rw [aa];rfl) (λu hu=>by rw [Gc] at hu;subst hu;rfl) (by rw [hl];simp;omega) ?_ M
 have h:=cv8 xs i.toNat n (by omega)
 rw [show 0+i.toNat*1=i.toNat by omega]
 exact h
end
end Go.Sl
namespace Go.Sl
variable{xs:List (BitVec 64)}{x:Operand}{E T b by' sz:Nat}{z:List Value}{i:Int}
section
variable {P:Program}{κ:Ctx}{N:Frm}{Q:Exit->Act->World->Prop}{L:Env}{I J:List Item}
variable {d:Option Tmp}{ty:TypeId}{ps:String}{af:Array Edge}{gd:Option (Nat×Bool)}
theorem j8.gh1(hT:tyF P T=some (sz,false,by',z))(M:er L x=some (.pointer (some ⟨b,0+i.toNat*1,none⟩)))(hb:ab8 κ J b (cells xs) E)(h0:0<=i)(hn:i<xs.length) :
  j8 P κ N ⟨d,.load T x,ty,ps,af,gd⟩ L J (U64<|e_ xs i):=by
 refine j8.fo2 hT M hb ?_
 have:=W1 xs i.toNat 0 (by omega) (by decide)
 rw [show 0+i.toNat*1=i.toNat*Enc.sz (BitVec 64)+0 by show 0+i.toNat*1=i.toNat*1+0;omega,this,bj9 h0 hn];rfl
theorem cv7(xs:List (BitVec 64))(i:Nat)(n:BitVec 64)(h:i<xs.length):(cells xs).take i++[U64 n]++(cells xs).drop (i+1)=cells (xs.set i n):=by
 induction xs generalizing i with
 |nil=>simp at h
 |cons x xs ih=>
  cases i with
  |zero=>rfl
  |succ i=>
   have M:i<xs.length:=by simpa using h
   have e:cells (x::xs)=U64 x::cells xs:=rfl
   rw [e,List.set_cons_succ]
   have e2:cells (x::xs.set i n)=U64 x::cells (xs.set i n):=rfl
   rw [e2,←ih i M];rfl
theorem Eff.du7{y:Operand}{ag:Bool}{n:BitVec 64}{I':List Item}(hT:tyF P T=some (sz,ag,by',z))(aa:sz=1)(hx:er L x=some (.pointer (some ⟨b,0+i.toNat*1,none⟩)))(hy:er L y=some (U64 n))(h0:0<=i)(hn:i<xs.length)
  (M:At I (e8 b (cells xs) E) (e8 b (cells<|xs.set i.toNat n) E) I') :
  Eff P κ N Q ⟨none,.store T x y,ty,ps,af,gd⟩ L I λL' I''=>L'=L/\I''=I':=by
 have hl:(cells xs).length=xs.length:=by rw [r9];show xs.length*1=_;omega
 refine Eff.store (vs:=[U64 n]) (cs':=cells (xs.set i.toNat n)) hT hx hy C (by rw [aa];rfl) (λu hu=>by rw [Gc] at hu;subst hu;rfl) (by rw [hl];simp;omega) ?_ M
 have h:=cv7 xs i.toNat n (by omega)
 rw [show 0+i.toNat*1=i.toNat by omega]
 exact h
end
end Go.Sl
namespace Go.Sl
def ind(p:Bool):Int:=if p=true then 1 else 0
def prs(k:Int):Int:=k*(k - 1) / 2
theorem fj7(p:Bool):ind p=0\/ind p=1:=by unfold ind;split<;>simp
theorem as3:ind false=0:=rfl
theorem cu1:ind true=1:=rfl
theorem bx3(p:Nat->Bool):∀n:Nat,2*p9 n (λy=>p9 n (λx=>ind (decide (x<y)&&p x&&p y)))=p9 n (λx=>ind (p x))*p9 n (λx=>ind (p x)) - p9 n (λx=>ind (p x))
 |0=>rfl
 |n+1=>by
  have M:=bx3 p n
  have h1:∀y,y<n->p9 (n+1) (λx=>ind<|decide (x<y)&&p x&&p y)=p9 n (λx=>ind<|decide (x<y)&&p x&&p y):=λy hy=>by
   show p9 n _+ind _=_
   rw [D_ (show ¬n<y by omega)]
   simp [ind]
  have h2:p9 (n+1) (λx=>ind<|decide (x<n)&&p x&&p n)=if p n=true then p9 n (λx=>ind<|p x) else 0:=by
   show p9 n _+ind _=_
   rw [D_ (show ¬n<n by omega)]
   cases hn:p n with
   |true=>
    rw [B_ rfl]
    simp only [Jt,Bool.and_true,as3,Jz]
    exact p4 n λx hx=>by rw [As hx,Kl]
   |false=>
    simp only [Ly,as3,Jz]
    rw [An (by decide)]
    exact ad4 n
  have h3:p9 (n+1) (λy=>p9 (n+1)<|λx=>ind<|decide (x<y)&&p x&&p y)=p9 n (λy=>p9 n<|λx=>ind<|decide (x<y)&&p x&&p y)+if p n=true then p9 n (λx=>ind<|p x) else 0:=by
   show p9 n _+p9 (n+1) _=_
   rw [p4 n h1,h2]
  rw [h3]
  show 2*(_+_)=(p9 n _+ind (p n))*(p9 n _+ind (p n)) - (p9 n _+ind (p n))
  cases hn:p n with
  |true=>
   rw [B_ rfl,cu1,Lq,M,Lq,Int.add_mul,Mh,Int.one_mul]
   omega
  |false=>
   rw [An (by decide),as3,Jz,Jz]
   exact M
theorem de6(p:Nat->Bool)(n:Nat):prs (p9 n (λx=>ind (p x)))=p9 n (λy=>p9 n (λx=>ind (decide (x<y)&&p x&&p y))):=by
 have:=bx3 p n
 unfold prs
 rw [Int.mul_sub,Mh]
 omega
structure ft6 (n:Nat) (e:Nat->Nat->Bool):Prop where
 sym:∀x y,e x y=e y x
 irr:∀x,e x x=false
section
variable {n:Nat}{e:Nat->Nat->Bool}
def coN(n:Nat)(e:Nat->Nat->Bool)(v w:Nat):Int:=if v=w then 0 else p9 n λx=>ind (e v x&&e w x)
def ah4(n:Nat)(e:Nat->Nat->Bool)(v:Nat):Int:=p9 n λw=>prs (coN n e v w)
def cyc(e:Nat->Nat->Bool)(a b d c:Nat):Bool:=decide (b<d)&&decide (a<b)&&decide (a<c)&&(e a b&&e a d&&(e b c&&e d c))
theorem di8(p:Prop)[Decidable p]:ind (decide p)=if p then 1 else 0:=by unfold ind;by_cases h:p<;>simp [h]
theorem sum3(f:Nat->Nat->Nat->Int)(g:Nat->Nat->Nat->Int)(h:∀x y z,f x y z=g x y z):p9 n (λx=>p9 n λy=>p9 n λz=>f x y z)=p9 n (λx=>p9 n λy=>p9 n λz=>g x y z):=
 p4 n λx _=>p4 n λy _=>p4 n λz _=>h x y z
theorem cs6(h:ft6 n e)(v w x y:Nat):ind (decide (v≠w)&&(decide (x<y)&&(e v x&&e w x)&&(e v y&&e w y)))=ind (cyc e v x y w)+ind (cyc e w x y v)+ind (cyc e x v w y)+ind (cyc e x w v y):=by
 unfold cyc
 rw [h.sym x v,h.sym x w,h.sym y v,h.sym y w]
 cases e1:e v x with
 |false=>simp [ind]
 |true=>
  cases e2:e w x with
  |false=>simp [ind]
  |true=>
   cases e3:e v y with
   |false=>simp [ind]
   |true=>
    cases e4:e w y with
    |false=>simp [ind]
    |true=>
     have n1:v≠x:=λq=>by rw [q,h.irr] at e1;cases e1
     have n2:w≠x:=λq=>by rw [q,h.irr] at e2;cases e2
     have n3:v≠y:=λq=>by rw [q,h.irr] at e3;cases e3
     have n4:w≠y:=λq=>by rw [q,h.irr] at e4;cases e4
     simp only [Bool.and_true,←Bool.decide_and,di8]
     repeat' split
     all_goals omega
theorem cj9(h:ft6 n e)(v:Nat):ah4 n e v =
  p9 n (λb=>p9 n λd=>p9 n λc=>ind<|cyc e v b d c)+p9 n (λa=>p9 n λd=>p9 n λc=>ind<|cyc e a v d c) +
  p9 n (λa=>p9 n λb=>p9 n λc=>ind<|cyc e a b v c)+p9 n (λa=>p9 n λb=>p9 n λd=>ind<|cyc e a b d v):=by
 have h1:ah4 n e v=p9 n λw=>p9 n λy=>p9 n λx=>ind (decide (v≠w)&&(decide (x<y)&&(e v x&&e w x)&&(e v y&&e w y))):=by
  unfold ah4
  refine p4 n λw _=>?_
  unfold coN
  by_cases hw:v=w
  ·rw [B_ hw]
   symm
   show _=prs 0
   refine (p4 n λy _=>p4 n λx _=>?_).trans ((p4 n λ_ _=>ad4 n).trans (ad4 n))
   rw [D_ (λhh=>hh hw),Jt];rfl
  rw [An hw,de6]
  refine p4 n λy _=>p4 n λx _=>?_
  rw [As hw,Kl]
 rw [h1,sum3 _ _ λw y x=>cs6 h v w x y]
 have h2:∀(A B C D:Nat->Nat->Nat->Int),p9 n (λw=>p9 n λy=>p9 n λx=>A w y x+B w y x+C w y x+D w y x) =
   p9 n (λw=>p9 n λy=>p9 n λx=>A w y x)+p9 n (λw=>p9 n λy=>p9 n λx=>B w y x)+p9 n (λw=>p9 n λy=>p9 n λx=>C w y x)+p9 n (λw=>p9 n λy=>p9 n λx=>D w y x):=λA B C D=>by
  simp only [F9]
 rw [h2]
 -- w y x to b d c with b = x, d = y, c = w
 have r1:p9 n (λw=>p9 n λy=>p9 n λx=>ind<|cyc e v x y w)=p9 n (λb=>p9 n λd=>p9 n λc=>ind<|cyc e v b d c):=by
  rw [p4 n λw _=>G6 n n λy x=>ind<|cyc e v x y w,G6 n n λw x=>p9 n λy=>ind<|cyc e v x y w]
  exact p4 n λx _=>G6 n n λw y=>ind<|cyc e v x y w
 have r2:p9 n (λw=>p9 n λy=>p9 n λx=>ind<|cyc e w x y v)=p9 n (λa=>p9 n λb=>p9 n λd=>ind<|cyc e a b d v):=
  p4 n λw _=>G6 n n λy x=>ind (cyc e w x y v)
 have r3:p9 n (λw=>p9 n λy=>p9 n λx=>ind<|cyc e x v w y)=p9 n (λa=>p9 n λd=>p9 n λc=>ind<|cyc e a v d c):=by
  rw [p4 n λw _=>G6 n n λy x=>ind<|cyc e x v w y]
  exact G6 n n λw x=>p9 n λy=>ind<|cyc e x v w y
 have r4:p9 n (λw=>p9 n λy=>p9 n λx=>ind<|cyc e x w v y)=p9 n (λa=>p9 n λb=>p9 n λc=>ind<|cyc e a b v c):=by
  rw [p4 n λw _=>G6 n n λy x=>ind<|cyc e x w v y]
  exact G6 n n λw x=>p9 n λy=>ind<|cyc e x w v y
 rw [r1,r2,r3,r4]
 omega
def bw8(n:Nat)(e:Nat->Nat->Bool):Int:=p9 n λa=>p9 n λb=>p9 n λd=>p9 n λc=>ind (cyc e a b d c)
theorem bd4(h:ft6 n e):p9 n (ah4 n e)=4*bw8 n e:=by
 rw [p4 n λv _=>cj9 h v]
 simp only [F9]
 have M:p9 n (λv=>p9 n λa=>p9 n λd=>p9 n λc=>ind<|cyc e a v d c)=bw8 n e:=G6 n n λv a=>p9 n λd=>p9 n λc=>ind (cyc e a v d c)
 have r3:p9 n (λv=>p9 n λa=>p9 n λb=>p9 n λc=>ind<|cyc e a b v c)=bw8 n e:=by
  rw [G6 n n λv a=>p9 n λb=>p9 n λc=>ind<|cyc e a b v c]
  exact p4 n λa _=>G6 n n λv b=>p9 n λc=>ind<|cyc e a b v c
 have r4:p9 n (λv=>p9 n λa=>p9 n λb=>p9 n λd=>ind<|cyc e a b d v)=bw8 n e:=by
  rw [G6 n n λv a=>p9 n λb=>p9 n λd=>ind<|cyc e a b d v]
  refine p4 n λa _=>?_
  rw [G6 n n λv b=>p9 n λd=>ind<|cyc e a b d v]
  exact p4 n λb _=>G6 n n λv d=>ind<|cyc e a b d v
 rw [M,r3,r4]
 show bw8 n e+_+_+_=_
 omega
end
end Go.Sl
namespace Go.Sl
open Go
variable{fuel i:Nat}{v:Value}{M:Array Bool}
section
variable {P:Program}{ops:Array Oper}{Q:Exit->Act->World->Prop}{md:Region.Mode}{S:World->Prop}
def ap7(P:Program)(md:Region.Mode)(ops:Array Oper)(Q:Exit->Act->World->Prop)(S:World->Prop)(stop:Nat)(K:Nat->Array Bool->Act->World->Prop):Nat->Array Bool->Act->World->Prop
 |0,listed,a,w=>Region.ready md ops listed=[]/\Q .normal a w
 |fuel+1,listed,a,w=>
  (Region.ready md ops listed=[stop]->K (fuel+1) listed a w)/\
  (Region.ready md ops listed≠[stop]->(Region.ready md ops listed=[]->Q .normal a w)/\
   ∀i∈Region.ready md ops listed,wpOp P ops Q i (λa' w'=>S w'/\ap7 P md ops Q S stop K fuel (listed.setIfInBounds i true) a' w') a w)
variable {K:Nat->Array Bool->Act->World->Prop}
theorem bk5{stop:Nat}(M:∀fuel listed a w,K fuel listed a w->wpAny P md ops Q fuel listed a w):∀(fuel:Nat) (listed:Array Bool) (a:Act) (w:World),ap7 P md ops Q S stop K fuel listed a w->wpAny P md ops Q fuel listed a w
 |0,_,_,_,h=>h
 |fuel+1,listed,a,w,h=>by
  by_cases hr:Region.ready md ops listed=[stop]
  ·exact M _ _ _ _<|h.1 hr
  exact ⟨(h.2 hr).1,λi hi=>wpOp_mono (λa' w' h'=>bk5 M fuel _ a' w' h'.2)<|(h.2 hr).2 i hi⟩
theorem bb8{S0:World->Prop}(hS:∀w,S w->S0 w){n stop:Nat}:∀(fuel:Nat) (listed:Array Bool) (a:Act) (w:World),ap7 P md ops Q S stop (X5 P md ops Q S0 n) fuel listed a w->X5 P md ops Q S0 n fuel listed a w
 |0,_,_,_,h=>h
 |fuel+1,listed,a,w,h=>by
  by_cases hr:Region.ready md ops listed=[stop]
  ·exact h.1 hr
  refine ⟨λ_=>bk5 (λ_ _ _ _ h=>au9 _ _ _ _ h) _ _ _ _ h,λ_=>⟨(h.2 hr).1,λi hi=>wpOp_mono (λa' w' M=>⟨hS w' M.1,bb8 hS fuel _ a' w' M.2⟩)<|(h.2 hr).2 i hi⟩⟩
theorem bv1{stop:Nat}{oi:Oper}(hi:ops[i]? = some oi)(ae:∀(j:Nat) (o:Oper) cs b,ops[j]? = some o->o.op ≠ .select cs b)(ak:i≠stop)(aj:N5 md ops stop i=true)
  (hQ:∀c a w,Q (.panic c) (a.put oi.dst v) w->Q (.panic c) a w) :
  ∀(fuel:Nat) (M:Array Bool) (a:Act) (w:World),
   (∀j oj,ops[j]? = some oj->j≠i->M.getD j true=false->(∀e∈oj.after,Region.binds md e=true->e.on≠i)->oi.apart ops oj=true)->
   i∈Region.ready md ops M->YieldsIf P ops S oi v a->S w->
   ap7 P md ops Q S stop K fuel (M.setIfInBounds i true) (a.put oi.dst v) w->ap7 P md ops Q S stop K (fuel+1) M a w:=by
 intro fuel
 induction fuel with
 |zero=>
  intro M a w _ hr hy hS H
  refine ⟨λh=>(by rw [h] at hr;exact absurd (by simpa using hr) ak),λ_=>⟨λh=>(by rw [h] at hr;cases hr),λj hj=>?_⟩⟩
  by_cases hji:j=i
  ·subst hji;exact hy.wpOp hi hS ⟨hS,H⟩
  have:=ready_mono hj hji
  rw [H.1] at this
  cases this
 |succ fuel ih=>
  intro M a w aa hr hy hS H
  refine ⟨λh=>(by rw [h] at hr;exact absurd (by simpa using hr) ak),λ_=>⟨λh=>(by rw [h] at hr;cases hr),λj hj=>?_⟩⟩
  by_cases hji:j=i
  ·subst hji;exact hy.wpOp hi hS ⟨hS,H⟩
  have ai:=ready_mono hj hji
  have ar:Region.ready md ops (M.setIfInBounds i true)≠[stop]:=λh=>by
   rw [h] at ai
   obtain rfl:j=stop:=by simpa using ai
   exact bx7 hr hj aj
  have h1:=(H.2 ar).2 j ai
  obtain ⟨ah,oj,ab,au⟩:=mem_ready.1 hj
  have an:=ac6 hr hj ab
  have h2:=wpOp_putIf ab (aa j oj ab hji ah an) (λcs b=>ae i oi cs b hi) (λcs b=>ae j oj cs b ab) hQ hy h1
  have ad:∀k ok,ops[k]? = some ok->k≠i->(M.setIfInBounds j true).getD k true=false->
    (∀e∈ok.after,Region.binds md e=true->e.on≠i)->oi.apart ops ok=true:=λk ok hk ap ao aq=>by
   refine aa k ok hk ap ?_ aq
   by_cases hjk:j=k
   ·subst hjk;exact ah
   rw [getD_set_ne true hjk] at ao;exact ao
  refine wpOp_mono (λa' w' h3=>⟨h3.2.1,ih (M.setIfInBounds j true) a' w' ad (ready_mono hr<|Me hji) h3.1 h3.2.1 ?_⟩) h2
  rw [Array.setIfInBounds_comm _ _ hji]
  exact h3.2.2
theorem cd5{stop:Nat}{oi:Oper}{a:Act}{w:World}(hi:ops[i]? = some oi)
  (hs:Region.noSelect ops=true) (hf:Region.free md ops M i=true) (hr:(Region.ready md ops M).contains i=true) (ab:Nat.beq i stop=false) (aa:N5 md ops stop i=true)
  (hQ:∀c a w,Q (.panic c) (a.put oi.dst v) w->Q (.panic c) a w) (hy:YieldsIf P ops S oi v a) (hS:S w)
  (h:ap7 P md ops Q S stop K fuel (M.setIfInBounds i true) (a.put oi.dst v) w):ap7 P md ops Q S stop K (fuel+1) M a w:=
 bv1 hi (Region.noSelect_spec hs) (λe=>by subst e;simp at ab) aa hQ fuel M a w (Region.free_spec hi hf) (by simpa using hr) hy hS h
end
section
variable {P:Program}{κ:Ctx}{N:Frm}{ops:Array Oper}{Q:Exit->Act->World->Prop}{I J J0:List Item}{L:Env}{o:Oper}{n:Nat}
def D2(P:Program)(κ:Ctx)(N:Frm)(ops:Array Oper)(Q:Exit->Act->World->Prop)(J0:List Item)(n:Nat)(J:List Item)(stop fuel:Nat)(listed:Array Bool)(L:Env)(I:List Item):Prop:=
 ∀a w,Ag N a L->Sep κ w I->ap7 P .any ops Q (λw=>Sep κ w J) stop (X5 P .any ops Q (λw=>Sep κ w J0) n) fuel listed a w
theorem D.two(J:List Item)(stop:Nat)(hf:Fit κ J J0)(h:D2 P κ N ops Q J0 n J stop fuel M L I):D P κ N ops Q J0 n fuel M L I:=λa w ha hs=>bb8 (λw' hw=>hf w' hw) _ _ _ _ (h a w ha hs)
theorem D2.stop{stop:Nat}(hr:Region.ready .any ops M=[stop])(h:D P κ N ops Q J0 n (fuel+1) M L I):D2 P κ N ops Q J0 n J stop (fuel+1) M L I:=
 λa w ha hs=>⟨λ_=>h a w ha hs,λaa=>absurd hr aa⟩
theorem D2.read{stop:Nat}{d:Nat}(i:Nat)(hi:ops[i]? = some o)(ai:Region.noSelect ops=true)(hf:Region.free .any ops M i=true)
  (hr:(Region.ready .any ops M).contains i=true) (ad:Nat.beq i stop=false) (ae:N5 .any ops stop i=true) (hQ:∀c a u w,Q (.panic c) (a.put o.dst u) w->Q (.panic c) a w) (hw:q8 N ops o L) (hd:o.dst=some d) (hN:Nat.blt d N.n=true)
  (hJ:Fit κ I J) (ab:j8 P κ N o L J v) (h:D2 P κ N ops Q J0 n J stop fuel (M.setIfInBounds i true) ((d,v)::L) I):D2 P κ N ops Q J0 n J stop (fuel+1) M L I:=λa w ha hs=>by
 refine cd5 hi ai hf hr ad ae (λc a w=>hQ c a v w) (.inl ⟨hw a ha,λw' ah=>ab a w' ha ah⟩) (hJ w hs) ?_
 have aa:=ha.put d hN v
 rw [←hd] at aa
 exact h _ w aa hs
def ch4(P:Program)(κ:Ctx)(N:Frm)(ops:Array Oper)(Q:Exit->Act->World->Prop)(J0:List Item)(n:Nat)(J:List Item)(stop fuel:Nat)(listed:Array Bool)(L:Env)(I:List Item)(i:Nat):Prop:=
 ∀a w,Ag N a L->Sep κ w I->wpOp P ops Q i (λa' w'=>Sep κ w' J/\ap7 P .any ops Q (λw=>Sep κ w J) stop (X5 P .any ops Q (λw=>Sep κ w J0) n) fuel (listed.setIfInBounds i true) a' w') a w
theorem D2.step{stop:Nat}{rs:List Nat}(hr:Region.ready .any ops M=rs)(aa:rs.isEmpty=false)(ab:(rs==[stop])=false)(h:∀i∈rs,ch4 P κ N ops Q J0 n J stop fuel M L I i):D2 P κ N ops Q J0 n J stop (fuel+1) M L I:=
 λa w ha hs=>⟨λh0=>(by rw [hr] at h0;simp [h0] at ab),λ_=>⟨λh0=>(by rw [hr] at h0;simp [h0] at aa),λi hi=>h i (hr▸hi) a w ha hs⟩⟩
theorem ch4.eff{stop:Nat}{R:Env->List Item->Prop}(hi:ops[i]? = some o)(hw:q8 N ops o L)(he:Eff P κ N Q o L I R)
  (h:∀L' I',R L' I'->Fit κ I' J/\D2 P κ N ops Q J0 n J stop fuel (M.setIfInBounds i true) L' I'):ch4 P κ N ops Q J0 n J stop fuel M L I i:=λa w ha hs=>by
 unfold wpOp
 simp only [hi,hw a ha,Lr]
 exact .inl<|Oper.wp_mono (λa' w' ⟨L',I',hR,ab,aa⟩=>⟨(h L' I' hR).1 w' aa,(h L' I' hR).2 a' w' ab aa⟩)<|he a w ha hs
end
end Go.Sl
namespace Go.Sl
variable{sup:List Int}{gone:List Bool}{j m n:Nat}{b:Int}
def K5(sup:List Int)(gone:List Bool):Nat->Int
 |0=> -1
 |i+1=>if e_ gone i=false/\(K5 sup gone i<0\/e_ sup i<e_ sup (K5 sup gone i)) then (i:Int) else K5 sup gone i
theorem bt4(sup:List Int)(gone:List Bool)(n:Nat) : -1<=K5 sup gone n/\K5 sup gone n<n:=by
 induction n with
 |zero=>simp [K5]
 |succ n ih=>unfold K5;split<;>omega
theorem cg6(sup:List Int)(gone:List Bool)(n:Nat):K5 sup gone n<0\/e_ gone (K5 sup gone n)=false:=by
 induction n with
 |zero=>left;simp [K5]
 |succ n ih=>
  unfold K5;split
  ·rename_i h;exact .inr h.1
  exact ih
theorem bo0(h:∃i:Nat,i<n/\e_ gone i=false):0<=K5 sup gone n:=by
 induction n with
 |zero=>obtain ⟨i,hi,_⟩:=h;omega
 |succ n ih=>
  unfold K5
  by_cases hb:K5 sup gone n<0
  ·obtain ⟨i,hi,hg⟩:=h
   have M:i=n:=by
    refine Gb λaa=>?_
    have:=ih ⟨i,by omega,hg⟩
    omega
   subst M
   rw [B_ ⟨hg,.inl hb⟩];omega
  split<;>omega
def ba7(gone:List Bool)(sup:List Int)(p:Pt):List Int:=
 if e_ gone p.u=false/\e_ gone p.v=false then (sup.set p.u.toNat<|e_ sup p.u - 1).set p.v.toNat (e_ (sup.set p.u.toNat<|e_ sup p.u - 1) p.v - 1) else sup
structure TrS where
 sup:List Int
 gone:List Bool
 num:List Int
 ord:List Int
 k:Int
def U4(tri:List (List Pt)):TrS:=⟨tri.map λl=>(l.length:Int),List.replicate tri.length false,List.replicate tri.length 0,[],0⟩
def aq6(tri:List (List Pt))(s:TrS):TrS:=
  ⟨(e_ tri (K5 s.sup s.gone tri.length)).foldl (ba7 (s.gone.set (K5 s.sup s.gone tri.length).toNat true)) s.sup,s.gone.set (K5 s.sup s.gone tri.length).toNat true,
   s.num.set (K5 s.sup s.gone tri.length).toNat (max s.k (e_ s.sup (K5 s.sup s.gone tri.length))),s.ord++[K5 s.sup s.gone tri.length],max s.k (e_ s.sup (K5 s.sup s.gone tri.length))⟩
def av5(tri:List (List Pt)):Nat->TrS
 |0=>U4 tri
 |j+1=>aq6 tri (av5 tri j)
def ax9(tri:List (List Pt)):List Int:=(av5 tri tri.length).num
def U3(tri:List (List Pt)):List Int:=(av5 tri tri.length).ord
structure ch3 (m:Nat) (tri:List (List Pt)):Prop where
 len:∀l∈tri,l.length<=m
 rng:∀l∈tri,∀p∈l,0<=p.u/\p.u<tri.length/\0<=p.v/\p.v<tri.length
structure cp9 (m n j:Nat) (s:TrS):Prop where
 gc7:s.sup.length=n
 fp1:s.gone.length=n
 fj4:s.num.length=n
 ft9:s.ord.length=j
 cnt:s.gone.count false+j=n
 sup:∀x∈s.sup, -(2*(m:Int)*j)<=x/\x<=m
 k:0<=s.k/\s.k<=m
 num:∀x∈s.num,0<=x/\x<=m
theorem ar9(gone:List Bool)(sup:List Int)(p:Pt):(ba7 gone sup p).length=sup.length:=by unfold ba7;split<;>simp
theorem ba6{p:Pt}{a:Int}(hp:0<=p.u/\p.u<sup.length/\0<=p.v/\p.v<sup.length)(h:∀x∈sup,a<=x/\x<=b):∀x∈ba7 gone sup p,a - 2<=x/\x<=b:=by
 unfold ba7
 split
 ·intro x M
  have hu:=h _ (at_mem hp.1 hp.2.1)
  have hv:=h _ (at_mem hp.2.2.1 hp.2.2.2)
  rcases Jq M with M|rfl
  ·rcases Jq M with M|rfl
   ·have:=h x M;omega
   omega
  rw [R4 _ p.u p.v _ hp.1 hp.2.2.1 hp.2.1]
  split<;>omega
 intro x M;have:=h x M;omega
theorem dg7{gone:List Bool}{b:Int}{n:Nat}:∀(l:List Pt) {sup:List Int} {a:Int},sup.length=n->(∀p∈l,0<=p.u/\p.u<n/\0<=p.v/\p.v<n)->(∀x∈sup,a<=x/\x<=b)->(l.foldl (ba7 gone) sup).length=n/\∀x∈l.foldl (ba7 gone) sup,a - 2*l.length<=x/\x<=b
 |[],sup,a,hs,_,h=>⟨hs,λx M=>by have:=h x M;simp only [Fu];omega⟩
 |p::l,sup,a,hs,hp,h=>by
  have h1:=ba6 (gone:=gone) (p:=p) (by have:=hp p A_;omega) h
  obtain ⟨h2,h3⟩:=dg7 (gone:=gone) (b:=b) (n:=n) l (sup:=ba7 gone sup p) (a:=a - 2) (by rw [ar9];exact hs) (λq hq=>hp q<|C_ _ hq) h1
  refine ⟨h2,λx M=>?_⟩
  have:=h3 x M
  simp only [E_];omega
theorem cp9.start{tri:List (List Pt)}(h:ch3 m tri):cp9 m tri.length 0 (U4 tri):=by
 refine ⟨by simp [U4],by simp [U4],by simp [U4],rfl,by simp [U4],λx M=>?_,by simp [U4],λx M=>?_⟩
 ·obtain ⟨l,hl,rfl⟩:=Gv.1 M
  have:=h.len l hl
  simp;omega
 have:=Kf M;omega
theorem cp9.gd6{tri:List (List Pt)}{s:TrS}(hs:cp9 m tri.length j s)(hj:j<tri.length):0<=K5 s.sup s.gone tri.length/\K5 s.sup s.gone tri.length<tri.length/\e_ s.gone (K5 s.sup s.gone tri.length)=false:=by
 have hc:=hs.cnt
 have h0:0<=K5 s.sup s.gone tri.length:=by
  refine bo0 ?_
  have M:false∈s.gone:=List.count_pos_iff.1 (by omega)
  obtain ⟨i,hi,e⟩:=Jv.1 M
  exact ⟨i,by have:=hs.fp1;omega,by rw [K9 _ _ hi,e]⟩
 exact ⟨h0,(bt4 _ _ _).2,(cg6 _ _ _).resolve_left (by omega)⟩
theorem cp9.step{tri:List (List Pt)}{s:TrS}(h:ch3 m tri)(hs:cp9 m tri.length j s)(hj:j<tri.length):cp9 m tri.length (j+1) (aq6 tri s):=by
 obtain ⟨h0,h1,h2⟩:=hs.gd6 hj
 unfold aq6
 generalize K5 s.sup s.gone tri.length=b at h0 h1 h2
 have M:=at_mem (xs:=tri) h0 h1
 have ad:=hs.sup _ (at_mem (xs:=s.sup) (i:=b) h0<|by have:=hs.gc7;omega)
 obtain ⟨l1,l2⟩:=dg7 (gone:=s.gone.set b.toNat true) (b:=(m:Int)) (n:=tri.length) (e_ tri b) hs.gc7 (λp hp=>h.rng _ M p hp) hs.sup
 have hl:=h.len _ M
 have hk:=hs.k
 have hg:b.toNat<s.gone.length:=by have:=hs.fp1;omega
 have aa:s.gone[b.toNat]=false:=by rw [←K9 _ _ hg,show ((b.toNat:Nat):Int)=b by omega];exact h2
 have ab:=hs.cnt
 refine ⟨l1,by rw [Fo];exact hs.fp1,by rw [Fo];exact hs.fj4,by simp [hs.ft9],?_,λx hx=>?_,?_,λx hx=>?_⟩
 ·show (s.gone.set b.toNat true).count false+(j+1)=_
  rw [List.count_set hg,aa]
  have:0<s.gone.count false:=List.count_pos_iff.2 (aa▸List.getElem_mem hg)
  simp;omega
 ·have:=l2 x hx
  have e:2*(m:Int)*((j+1:Nat):Int)=2*m*j+2*m:=by rw [Mj,Lq];omega
  omega
 ·show 0<=max s.k _/\max s.k _<=(m:Int);omega
 rcases Jq hx with hx|rfl
 ·exact hs.num x hx
 omega
theorem aq9{tri:List (List Pt)}(h:ch3 m tri):∀j,j<=tri.length->cp9 m tri.length j (av5 tri j)
 |0,_=>cp9.start h
 |j+1,hj=>(aq9 h j<|by omega).step h (by omega)
theorem bv5{tri:List (List Pt)}(h:ch3 m tri):(ax9 tri).length=tri.length/\∀x∈ax9 tri,0<=x/\x<=m:=⟨(aq9 h _ (Gd _)).fj4,(aq9 h _ (Gd _)).num⟩
end Go.Sl
namespace Go.Sl
variable{gone:List Bool}{j:Int}{m:Nat}
def fc4(tri:List (List Pt))(i a b:Int):Prop:=(⟨a,b⟩:Pt)∈e_ tri i\/(⟨b,a⟩:Pt)∈e_ tri i
structure cw6 (tri:List (List Pt)):Prop where
 rng:∀i:Int,0<=i->i<tri.length->∀p∈e_ tri i,(0<=p.u/\p.u<tri.length/\0<=p.v/\p.v<tri.length)/\p.u≠p.v/\p.u≠i/\p.v≠i
 sym:∀i a b:Int,0<=i->i<tri.length->fc4 tri i a b->fc4 tri a i b
 dis:∀i:Int,0<=i->i<tri.length->(e_ tri i).Pairwise λp q=>p.u≠q.u/\p.u≠q.v/\p.v≠q.u/\p.v≠q.v
def W6(gone:List Bool)(p:Pt):Bool:= !e_ gone p.u && !e_ gone p.v
def fu3(tri:List (List Pt))(gone:List Bool)(i:Int):Int:=(((e_ tri i).filter (W6 gone)).length:Int)
def cf2(j:Int)(p:Pt):Bool:=decide (p.u=j)||decide (p.v=j)
theorem fz3{p:Pt}{sup:List Int}(hu:0<=p.u/\p.u<sup.length)(hv:0<=p.v/\p.v<sup.length)(M:p.u≠p.v)(h0:0<=j) :
  e_ (ba7 gone sup p) j=e_ sup j - if (W6 gone p&&cf2 j p)=true then 1 else 0:=by
 unfold ba7 W6 cf2
 by_cases hc:e_ gone p.u=false/\e_ gone p.v=false
 ·rw [B_ hc,hc.1,hc.2]
  rw [R4 _ p.v j _ hv.1 h0 (by rw [Fo];exact hv.2),R4 _ p.u p.v _ hu.1 hv.1 hu.2,R4 _ p.u j _ hu.1 h0 hu.2,An M]
  by_cases e1:p.v=j
  ·rw [B_ e1,e1];simp
  rw [An e1]
  by_cases e2:p.u=j
  ·rw [B_ e2,e2];simp
  rw [An e2];simp [e1,e2]
 rw [An hc]
 have:(!e_ gone p.u && !e_ gone p.v)=false:=by
  cases h1:e_ gone p.u<;>cases h2:e_ gone p.v<;>simp [h1,h2] at hc ⊢
 rw [this];simp
theorem cm3{n:Nat}(M:0<=j):∀(l:List Pt) (sup:List Int),sup.length=n->(∀p∈l,(0<=p.u/\p.u<n/\0<=p.v/\p.v<n)/\p.u≠p.v)->
  e_ (l.foldl (ba7 gone) sup) j=e_ sup j - ((l.filter λp=>W6 gone p&&cf2 j p).length:Int)
 |[],sup,_,_=>by simp
 |p::l,sup,hs,h=>by
  obtain ⟨⟨h1,h2,h3,h4⟩,h5⟩:=h p A_
  rw [Hy,cm3 M l (ba7 gone sup p) (by rw [ar9];exact hs)<|λq hq=>h q<|C_ _ hq,fz3 (by omega) (by omega) h5 M,Hj]
  by_cases hc:(W6 gone p&&cf2 j p)=true
  ·rw [B_ hc,B_ hc,E_];omega
  rw [An hc,An hc];omega
theorem bs5{α:Type}{l:List α}{P:α->Bool}(h:l.Pairwise λa b=>¬(P a=true/\P b=true)):(l.filter P).length<=1:=by
 induction l with
 |nil=>simp
 |cons x l ih=>
  obtain ⟨M,h2⟩:=Ge.1 h
  rw [Hj]
  by_cases hx:P x=true
  ·rw [B_ hx]
   have:l.filter P=[]:=Jd.2 λy hy hp=>M y hy ⟨hx,hp⟩
   rw [this];simp
  rw [An hx];exact ih h2
theorem cw6.one{tri:List (List Pt)}(h:cw6 tri){i:Int}(h0:0<=i)(h1:i<tri.length)(P:Pt->Bool):((e_ tri i).filter λp=>P p&&cf2 j p).length<=1:=by
 refine bs5<|(h.dis i h0 h1).imp fun {p q} hd=>?_
 rintro ⟨M,hq⟩
 unfold cf2 at M hq
 simp only [Hc,Ki,Gn] at M hq
 obtain ⟨d1,d2,d3,d4⟩:=hd
 rcases M.2 with e|e<;>rcases hq.2 with e'|e'
 ·exact d1<|by omega
 ·exact d2<|by omega
 ·exact d3<|by omega
 exact d4<|by omega
theorem ct3(l:List Pt)(gone:List Bool){b:Int}(M:0<=b/\b<gone.length)(hr:∀p∈l,0<=p.u/\0<=p.v):(l.filter (W6 gone)).length=(l.filter (W6 (gone.set b.toNat true))).length+(l.filter λp=>W6 gone p&&cf2 b p).length:=by
 induction l with
 |nil=>rfl
 |cons p l ih=>
  have ih:=ih λq hq=>hr q (C_ _ hq)
  obtain ⟨hu,hv⟩:=hr p A_
  have e:W6 (gone.set b.toNat true) p=(W6 gone p && !cf2 b p):=by
   unfold W6 cf2
   rw [R4 _ b p.u _ M.1 hu M.2,R4 _ b p.v _ M.1 hv M.2]
   by_cases e1:b=p.u<;>by_cases e2:b=p.v
   ·rw [B_ e1,B_ e2];simp [e1.symm]
   ·rw [B_ e1,An e2];simp [e1.symm]
   ·rw [An e1,B_ e2];simp [e2.symm]
   rw [An e1,An e2]
   have a1:¬p.u=b:=λh=>e1 h.symm
   have a2:¬p.v=b:=λh=>e2 h.symm
   simp [a1,a2]
  rw [Hj,Hj,Hj,e]
  cases h1:W6 gone p<;>cases h2:cf2 b p<;>simp [h1,h2]<;>omega
def fk2(tri:List (List Pt))(s:TrS):Prop:=∀j:Int,0<=j->j<tri.length->e_ s.gone j=false->e_ s.sup j=fu3 tri s.gone j
theorem fk2.start(tri:List (List Pt)):fk2 tri (U4 tri):=λj h0 h1 _=>by
 have hl:∀p,W6 (List.replicate tri.length false) p=true:=λp=>by
  have M:∀i:Int,e_ (List.replicate tri.length false) i=false:=λi=>by
   unfold e_
   rw [Hq,Mv]
   split<;>rfl
  unfold W6
  rw [M,M];rfl
 show e_ (tri.map λl=>(l.length:Int)) j=_
 unfold fu3 U4
 simp only
 rw [Jk.2 λp _=>hl p]
 obtain ⟨k,rfl⟩:=Hm h0
 rw [K9 _ k (by rw [F_];omega),K9 _ k<|by omega,Jj]
theorem fk2.step{tri:List (List Pt)}{j:Nat}{s:TrS}(hG:cw6 tri)(hs:cp9 m tri.length j s)(hj:j<tri.length)(h:fk2 tri s):fk2 tri (aq6 tri s):=λi h0 h1 hg=>by
 obtain ⟨b0,b1,b2⟩:=hs.gd6 hj
 unfold aq6 at hg ⊢
 simp only at hg ⊢
 generalize K5 s.sup s.gone tri.length=b at b0 b1 b2 hg ⊢
 have ah:=hs.fp1
 rw [R4 _ b i _ b0 h0 (by omega)] at hg
 have aa:b≠i:=λe=>by rw [B_ e] at hg;cases hg
 rw [An aa] at hg
 have M:=λp hp=>hG.rng b b0 b1 p hp
 rw [cm3 (n:=tri.length) h0 _ _ hs.gc7 (λp hp=>⟨(M p hp).1,(M p hp).2.1⟩),h i h0 h1 hg]
 have ai:=ct3 (e_ tri i) s.gone (b:=b) ⟨b0,by omega⟩ (λp hp=>by have:=(hG.rng i h0 h1 p hp).1;omega)
 have c1:=hG.one b0 b1 (j:=i) (W6<|s.gone.set b.toNat true)
 have c2:=hG.one h0 h1 (j:=b) (W6 s.gone)
 have g':∀x:Int,0<=x->(e_ (s.gone.set b.toNat true) x=false↔x≠b/\e_ s.gone x=false):=λx hx=>by
  rw [R4 _ b x _ b0 hx (by omega)]
  by_cases e:b=x
  ·rw [B_ e];simp [e]
  rw [An e];exact ⟨λh=>⟨λh2=>e h2.symm,h⟩,λh=>h.2⟩
 have ae:((e_ tri b).filter λp=>W6 (s.gone.set b.toNat true) p&&cf2 i p).length=((e_ tri i).filter λp=>W6 s.gone p&&cf2 b p).length:=by
  have iff:0<((e_ tri b).filter λp=>W6 (s.gone.set b.toNat true) p&&cf2 i p).length↔0<((e_ tri i).filter λp=>W6 s.gone p&&cf2 b p).length:=by
   rw [List.length_pos_iff_exists_mem,List.length_pos_iff_exists_mem]
   simp only [Gg,Hc,cf2,W6,Ki,Gn,J_]
   constructor
   ·rintro ⟨q,hq,⟨l1,l2⟩,e⟩
    have hr:=(M q hq).1
    rw [g' _ (by omega)] at l1 l2
    have hT:∃x,fc4 tri b i x/\e_ s.gone x=false:=by
     rcases e with e|e
     ·exact ⟨q.v,.inl<|by rw [←e];exact hq,l2.2⟩
     exact ⟨q.u,.inr<|by rw [←e];exact hq,l1.2⟩
    obtain ⟨x,hT,hx⟩:=hT
    rcases hG.sym b i x b0 b1 hT with h2|h2
    ·exact ⟨_,h2,⟨b2,hx⟩,.inl rfl⟩
    exact ⟨_,h2,⟨hx,b2⟩,.inr rfl⟩
   rintro ⟨q,hq,⟨l1,l2⟩,e⟩
   have hr:=hG.rng i h0 h1 q hq
   have hT:∃x,fc4 tri i b x/\e_ s.gone x=false/\x≠b/\0<=x:=by
    rcases e with e|e
    ·exact ⟨q.v,.inl<|by rw [←e];exact hq,l2,by have:=hr.2.1;omega,by omega⟩
    exact ⟨q.u,.inr<|by rw [←e];exact hq,l1,by have:=hr.2.1;omega,by omega⟩
   obtain ⟨x,hT,hx,ad,ab⟩:=hT
   rcases hG.sym i b x h0 h1 hT with h2|h2
   ·exact ⟨_,h2,⟨(g' i h0).2 ⟨λe=>aa e.symm,hg⟩,(g' x ab).2 ⟨ad,hx⟩⟩,.inl rfl⟩
   exact ⟨_,h2,⟨(g' x ab).2 ⟨ad,hx⟩,(g' i h0).2 ⟨λe=>aa e.symm,hg⟩⟩,.inr rfl⟩
  omega
 unfold fu3
 rw [ae]
 omega
theorem fb9(sup:List Int)(gone:List Bool)(n:Nat):∀i:Nat,i<n->e_ gone i=false->e_ sup (K5 sup gone n)<=e_ sup i:=by
 induction n with
 |zero=>intro i hi;omega
 |succ n ih=>
  intro i hi M
  have hlt:=bt4 sup gone n
  unfold K5
  by_cases hc:e_ gone n=false/\(K5 sup gone n<0\/e_ sup n<e_ sup (K5 sup gone n))
  ·rw [B_ hc]
   by_cases e:i=n
   ·subst e;exact Hl _
   rcases hc.2 with h|h
   ·exfalso
    have:=bo0 (sup:=sup) (gone:=gone) (n:=n) ⟨i,by omega,M⟩
    omega
   have:=ih i (by omega) M;omega
  rw [An hc]
  by_cases e:i=n
  ·subst e
   have:¬e_ sup i<e_ sup (K5 sup gone i):=λh=>hc ⟨M,.inr h⟩
   omega
  exact ih i (by omega) M
theorem J1{α:Type}{P Q:α->Bool}:∀{l:List α},(∀x∈l,P x=true->Q x=true)->(l.filter P).length<=(l.filter Q).length
 |[],_=>Gd _
 |x::l,h=>by
  have ih:=J1 (P:=P) (Q:=Q) (l:=l) λy hy=>h y (C_ _ hy)
  have M:=h x A_
  rw [Hj,Hj]
  by_cases h1:P x=true
  ·rw [B_ h1,B_<|M h1,E_,E_];omega
  rw [An h1]
  split
  ·rw [E_];omega
  exact ih
def okT(ord num:List Int)(c:Int)(p:Pt):Bool:=decide ((p.u∈ord->c<=e_ num p.u)/\(p.v∈ord->c<=e_ num p.v))
def gd1(l:List Int)(p:Pt):Bool:=decide (p.u∉l/\p.v∉l)
structure fr8 (tri:List (List Pt)) (s:TrS):Prop where
 gone:∀x:Int,0<=x->x<tri.length->(e_ s.gone x=true↔x∈s.ord)
 rng:∀x∈s.ord,0<=x/\x<tri.length
 nodup:s.ord.Nodup
 le:∀x∈s.ord,e_ s.num x<=s.k
 asc:s.ord.Pairwise λa b=>e_ s.num a<=e_ s.num b
 later:∀pre x post,s.ord=pre++x::post->(((e_ tri x).filter (gd1<|pre++[x])).length:Int)<=e_ s.num x
 high:∀x∈s.ord,e_ s.num x<=(((e_ tri x).filter (okT s.ord s.num<|e_ s.num x)).length:Int)
 rest:∀x:Int,0<=x->x<tri.length->x∉s.ord->s.k<=(((e_ tri x).filter (okT s.ord s.num s.k)).length:Int)
theorem fr8.start(tri:List (List Pt)):fr8 tri (U4 tri):=by
 have hz:∀i:Int,e_ (List.replicate tri.length false) i=false:=λi=>by
  unfold e_
  rw [Hq,Mv]
  split<;>rfl
 refine ⟨λx _ _=>?_,(λx h=>by cases h),List.nodup_nil,(λx h=>by cases h),List.Pairwise.nil,λaa x M h=>?_,(λx h=>by cases h),λx _ _ _=>?_⟩
 ·show e_ (List.replicate tri.length false) x=true↔x∈([]:List Int)
  rw [hz];simp
 ·exact absurd h<|by show ¬([]:List Int)=_;simp
 show (0:Int)<=_;omega
theorem fr8.step{tri:List (List Pt)}{j:Nat}{s:TrS}(hG:cw6 tri)(hs:cp9 m tri.length j s)(hj:j<tri.length)(hS:fk2 tri s)(h:fr8 tri s):fr8 tri (aq6 tri s):=by
 obtain ⟨b0,b1,b2⟩:=hs.gd6 hj
 have hbl:=fb9 s.sup s.gone tri.length
 unfold aq6
 generalize K5 s.sup s.gone tri.length=b at b0 b1 b2 hbl ⊢
 have hgl:=hs.fp1
 have hnl:=hs.fj4
 have hbo:b∉s.ord:=λhm=>by rw [(h.gone b b0 b1).2 hm] at b2;cases b2
 have hsb:=hS b b0 b1 b2
 generalize hK:max s.k (e_ s.sup b)=k'
 have nb:e_ (s.num.set b.toNat k') b=k':=by rw [R4 _ b b _ b0 b0 (by omega),B_ rfl]
 have nx:∀x:Int,0<=x->x≠b->e_ (s.num.set b.toNat k') x=e_ s.num x:=λx hx hne=>by rw [R4 _ b x _ b0 hx (by omega),An<|λe=>hne e.symm]
 have ne:∀x∈s.ord,x≠b:=λx hx e=>hbo (e▸hx)
 have hpr:=fun (x:Int) (x0:0<=x) (x1:x<tri.length) p hp=>(hG.rng x x0 x1 p hp).1
 -- what is fine stays fine
 have okm:∀(x:Int),0<=x->x<tri.length->∀c,c<=k'->((e_ tri x).filter (okT s.ord s.num c)).length<=((e_ tri x).filter (okT (s.ord++[b]) (s.num.set b.toNat k') c)).length:=λx x0 x1 c hc=>J1 λp hp hok=>by
  have hr:=hpr x x0 x1 p hp
  unfold okT at hok ⊢
  rw [Gn] at hok ⊢
  have one:∀e:Int,0<=e->(e∈s.ord->c<=e_ s.num e)->e∈s.ord++[b]->c<=e_ (s.num.set b.toNat k') e:=λe e0 he hm=>by
   by_cases e2:e=b
   ·rw [e2,nb];exact hc
   rw [nx e e0 e2]
   rcases Gt.1 hm with hm|hm
   ·exact he hm
   exact absurd (Gc.1 hm) e2
  exact ⟨one _ (by omega) hok.1,one _ (by omega) hok.2⟩
 -- what is left is fine at every level
 have live:∀(x:Int),0<=x->x<tri.length->∀c,((e_ tri x).filter (W6 s.gone)).length<=((e_ tri x).filter (okT s.ord s.num c)).length:=λx x0 x1 c=>J1 λp hp hl=>by
  have hr:=hpr x x0 x1 p hp
  unfold W6 at hl
  unfold okT
  simp only [Hc,J_] at hl
  refine As ⟨λhm=>?_,λhm=>?_⟩
  ·rw [(h.gone p.u (by omega)<|by omega).2 hm] at hl;cases hl.1
  rw [(h.gone p.v (by omega)<|by omega).2 hm] at hl;cases hl.2
 have hb':k'<=(((e_ tri b).filter (okT s.ord s.num k')).length:Int):=by
  by_cases hc:s.k<=e_ s.sup b
  ·have h1:=live b b0 b1 k'
   unfold fu3 at hsb
   omega
  have h1:=h.rest b b0 b1 hbo
  rw [show k'=s.k by omega];exact h1
 refine ⟨λx x0 x1=>?_,λx hx=>?_,?_,λx hx=>?_,?_,λpre x post e=>?_,λx hx=>?_,λx x0 x1 hx=>?_⟩
 ·show e_ (s.gone.set b.toNat true) x=true↔x∈s.ord++[b]
  rw [R4 _ b x _ b0 x0 (by omega),Gt,Gc]
  by_cases e:b=x
  ·rw [B_ e];simp [e]
  rw [An e,h.gone x x0 x1];exact ⟨.inl,λh=>h.resolve_right λe2=>e e2.symm⟩
 ·rcases Gt.1 hx with hx|hx
  ·exact h.rng x hx
  rw [Gc.1 hx];exact ⟨b0,b1⟩
 ·exact Ms.2 ⟨h.nodup,by simp,λa ha c hc e=>by rw [Gc.1 hc] at e;exact hbo<|e▸ha⟩
 ·show e_ (s.num.set b.toNat k') x<=k'
  rcases Gt.1 hx with hx|hx
  ·rw [nx x (h.rng x hx).1 (ne x hx)];have:=h.le x hx;omega
  rw [Gc.1 hx,nb];exact Hl _
 ·refine Ko.2 ⟨List.Pairwise.imp_of_mem (fun {a c} ha hc hac=>?_) h.asc,by simp,λa ha c hc=>?_⟩
  ·rw [nx a (h.rng a ha).1 (ne a ha),nx c (h.rng c hc).1 (ne c hc)];exact hac
  rw [Gc.1 hc,nb,nx a (h.rng a ha).1 (ne a ha)];have:=h.le a ha;omega
 ·show _<=e_ (s.num.set b.toNat k') x
  have e:s.ord++[b]=pre++x::post:=e
  rcases List.eq_nil_or_concat post with rfl|⟨q,y,rfl⟩
  ·have e1:=List.append_inj' e rfl
   have e2:b=x:=by have:=e1.2;simp at this;exact this
   subst e2
   rw [nb,←e1.1]
   have hf:((e_ tri b).filter (gd1<|s.ord++[b])).length<=((e_ tri b).filter (W6 s.gone)).length:=J1 λp hp ho=>by
    have hr:=hpr b b0 b1 p hp
    unfold gd1 at ho
    unfold W6
    rw [Gn] at ho
    have one:∀e:Int,0<=e->e<tri.length->e∉s.ord++[b]->e_ s.gone e=false:=λe e0 e1 hn=>by
     cases hg:e_ s.gone e with
     |false=>rfl
     |true=>exact absurd (Gi _<|(h.gone e e0 e1).1 hg) hn
    rw [one _ (by omega) (by omega) ho.1,one _ (by omega) (by omega) ho.2];rfl
   unfold fu3 at hsb
   omega
  rw [List.concat_eq_append] at e
  have e':s.ord++[b]=(pre++x::q)++[y]:=by rw [e];simp
  have e1:=List.append_inj' e' rfl
  have hx:x∈s.ord:=by rw [e1.1];simp
  rw [nx x (h.rng x hx).1 (ne x hx)]
  exact h.later pre x q e1.1
 ·show e_ (s.num.set b.toNat k') x<=(((e_ tri x).filter (okT (s.ord++[b]) (s.num.set b.toNat k')<|e_ (s.num.set b.toNat k') x)).length:Int)
  rcases Gt.1 hx with hx|hx
  ·have hr:=h.rng x hx
   rw [nx x hr.1 (ne x hx)]
   have h1:=h.high x hx
   have h2:=okm x hr.1 hr.2 (e_ s.num x) (by have:=h.le x hx;omega)
   omega
  rw [Gc.1 hx,nb]
  have h2:=okm b b0 b1 k' (Hl _)
  omega
 show k'<=(((e_ tri x).filter (okT (s.ord++[b]) (s.num.set b.toNat k') k')).length:Int)
 have hx1:x∉s.ord:=λhm=>hx (Gi _ hm)
 have hgx:e_ s.gone x=false:=by
  cases hg:e_ s.gone x with
  |false=>rfl
  |true=>exact absurd ((h.gone x x0 x1).1 hg) hx1
 have h2:=okm x x0 x1 k' (Hl _)
 by_cases hc:s.k<=e_ s.sup b
 ·have h1:=live x x0 x1 k'
  have h3:=hS x x0 x1 hgx
  obtain ⟨i,rfl⟩:=Hm x0
  have h4:=hbl i (by omega) hgx
  unfold fu3 at h3
  omega
 have h1:=h.rest x x0 x1 hx1
 rw [show k'=s.k by omega] at h2 ⊢
 omega
theorem dd9{tri:List (List Pt)}(M:cw6 tri)(h:ch3 m tri):∀j,j<=tri.length->fk2 tri (av5 tri j)/\fr8 tri (av5 tri j)
 |0,_=>⟨fk2.start tri,fr8.start tri⟩
 |j+1,hj=>by
  obtain ⟨h1,h2⟩:=dd9 M h j (by omega)
  have hs:=aq9 h j (by omega)
  exact ⟨h1.step M hs<|by omega,h2.step M hs (by omega) h1⟩
structure ab3 (tri:List (List Pt)) (num ord:List Int):Prop where
 fj4:num.length=tri.length
 ft9:ord.length=tri.length
 nodup:ord.Nodup
 rng:∀x∈ord,0<=x/\x<tri.length
 asc:∀i:Nat,i+1<ord.length->e_ num (e_ ord i)<=e_ num (e_ ord ((i+1:Nat):Int))
 later:∀i:Nat,i<ord.length->(((e_ tri<|e_ ord i).filter λp=>decide<|p.u∈List.drop (i+1) ord/\p.v∈List.drop (i+1) ord).length:Int)<=e_ num (e_ ord i)
 high:∀i:Nat,i<ord.length->e_ num (e_ ord i)<=(((e_ tri<|e_ ord i).filter λp=>decide<|e_ num (e_ ord i)<=e_ num p.u/\e_ num (e_ ord i)<=e_ num p.v).length:Int)
theorem db7{tri:List (List Pt)}(hG:cw6 tri)(h:ch3 m tri):ab3 tri (ax9 tri) (U3 tri):=by
 have hs:=aq9 h tri.length (Gd _)
 obtain ⟨_,M⟩:=dd9 hG h tri.length (Gd _)
 have ae:(U3 tri).length=tri.length:=hs.ft9
 have aa:∀x:Int,0<=x->x<tri.length->x∈U3 tri:=λx x0 x1=>by
  have hc:=hs.cnt
  have h0:(av5 tri tri.length).gone.count false=0:=by omega
  refine (M.gone x x0 x1).1 ?_
  cases hg:e_ (av5 tri tri.length).gone x with
  |true=>rfl
  |false=>
   exfalso
   have hm:=at_mem (xs:=(av5 tri tri.length).gone) x0 (by have:=hs.fp1;omega)
   rw [hg] at hm
   have:=List.count_pos_iff.2 hm
   omega
 have ah:=fun (x:Int) (hx:x∈U3 tri) p hp=>(hG.rng x (M.rng x hx).1 (M.rng x hx).2 p hp).1
 refine ⟨hs.fj4,ae,M.nodup,M.rng,λi hi=>?_,λi hi=>?_,λi hi=>?_⟩
 ·rw [K9 _ i (by omega),K9 _ (i+1) hi]
  exact (H1.1 M.asc) i (i+1) (by show i<(U3 tri).length;omega) hi<|by omega
 ·have ab:U3 tri=(U3 tri).take i++e_ (U3 tri) i::(U3 tri).drop (i+1):=by
   rw [K9 _ i hi,←Lg hi,Jl]
  have h1:=M.later _ _ _ ab
  refine La (Mn.2<|J1 λp hp ho=>?_) h1
  unfold gd1
  rw [Gn] at ho ⊢
  have hn:=M.nodup
  have ad:(U3 tri).Nodup:=hn
  rw [ab] at ad
  have hd:=(Ms.1 ad)
  have one:∀e,e∈List.drop (i+1) (U3 tri)->e∉(U3 tri).take i++[e_ (U3 tri) i]:=λe he hm=>by
   rcases Gt.1 hm with hm|hm
   ·exact hd.2.2 e hm e (C_ _ he) rfl
   rw [Gc.1 hm] at he
   exact (Hx.1 hd.2.1).1 he
  exact ⟨one _ ho.1,one _ ho.2⟩
 have hx:=at_mem (xs:=U3 tri) (i:=(i:Int)) (by omega) (by omega)
 refine La (M.high _ hx)<|Mn.2<|J1 λp hp ho=>?_
 have hr:=ah _ hx p hp
 unfold okT at ho
 rw [Gn] at ho ⊢
 exact ⟨ho.1<|aa _ (by omega)<|by omega,ho.2<|aa _ (by omega)<|by omega⟩
end Go.Sl
namespace Go.Sl
variable{x:Int}{k:Nat}{a b:Bool}
section
def ao9(nb:Int->List Int)(X:Int->Bool)(x:Int):Nat:=((nb x).filter X).length
structure bu5 (V:Int->Prop) (nb:Int->List Int) (k:Nat) (X:Int->Bool):Prop where
 dom:∀x,X x=true->V x
 deg:∀x,X x=true->k<=ao9 nb X x
def af0(V:Int->Prop)(nb:Int->List Int)(n:Int->Nat):Prop:=∀x,V x->∀k:Nat,k<=n x↔∃X,bu5 V nb k X/\X x=true
structure bk2 (V:Int->Prop) (nb nb':Int->List Int) (u v:Int):Prop where
 vu:V u
 vv:V v
 ne:u≠v
 oth:∀X x,x≠u->x≠v->ao9 nb' X x=ao9 nb X x
 cu:∀X:Int->Bool,ao9 nb' X u=ao9 nb X u+if X v=true then 1 else 0
 cv:∀X:Int->Bool,ao9 nb' X v=ao9 nb X v+if X u=true then 1 else 0
variable {V:Int->Prop}{nb nb':Int->List Int}{n:Int->Nat}{u v:Int}
theorem M8{X Y:Int->Bool}(h:∀y∈nb x,X y=true->Y y=true):ao9 nb X x<=ao9 nb Y x:=J1 h
theorem bk2.le(h:bk2 V nb nb' u v)(X:Int->Bool)(x:Int):ao9 nb X x<=ao9 nb' X x/\ao9 nb' X x<=ao9 nb X x+1:=by
 by_cases hu:x=u
 ·subst hu;rw [h.cu];split<;>omega
 by_cases hv:x=v
 ·subst hv;rw [h.cv];split<;>omega
 rw [h.oth X x hu hv];omega
theorem bk2.same(h:bk2 V nb nb' u v){X:Int->Bool}(hX:¬(X u=true/\X v=true))(M:X x=true):ao9 nb' X x=ao9 nb X x:=by
 by_cases hu:x=u
 ·subst hu;rw [h.cu,An λe=>hX ⟨M,e⟩];rfl
 by_cases hv:x=v
 ·subst hv;rw [h.cv,An λe=>hX ⟨e,M⟩];rfl
 exact h.oth X x hu hv
theorem af0.ge(hn:af0 V nb n){X:Int->Bool}(h:bu5 V nb k X)(M:X x=true):k<=n x:=(hn x (h.dom x M) k).2 ⟨X,h,M⟩
theorem af0.fj5(hn:af0 V nb n)(hx:V x)(hk:k<=n x):∃Z,bu5 V nb k Z/\Z x=true/\∀y,Z y=true->V y/\k<=n y:=by
 obtain ⟨Z,M,h2⟩:=(hn x hx k).1 hk
 exact ⟨Z,M,h2,λy hy=>⟨M.dom y hy,hn.ge M hy⟩⟩
theorem av7:(a||b)=true↔a=true\/b=true:=by cases a<;>cases b<;>simp
theorem L7:(a&&b)=true↔a=true/\b=true:=by cases a<;>cases b<;>simp
noncomputable def upN(V:Int->Prop)(n:Int->Nat)(k:Nat)(x:Int):Bool:= @decide (V x/\k<=n x) (Classical.propDecidable _)
theorem P9:upN V n k x=true↔V x/\k<=n x:= @Gp _ (Classical.propDecidable _)
theorem fa7(hn:af0 V nb n)(h:bk2 V nb nb' u v)(ar:∀x y,V x->V y->y∈nb' x->x∈nb' y)(hk:k=min (n u) (n v)){R S:Int->Bool}
  (ao:∀x,R x=true->V x/\n x=k) (a1:n u=k->R u=true) (ax:n v=k->R v=true) (ap:∀x y,R x=true->y∈nb' x->V y->n y=k->R y=true)
  (au:∀x,S x=true->R x=true) (ay:∀x,S x=true->k+1<=ao9 nb' (λy=>S y||upN V n (k+1) y) x)
  (az:∀T:Int->Bool,(∀x,T x=true->R x=true)->(∀x,T x=true->k+1<=ao9 nb' (λy=>T y||upN V n (k+1) y) x)->∀x,T x=true->S x=true) :
  af0 V nb' λx=>n x+if S x=true then 1 else 0:=by
 have ak:∀{Z:Int->Bool} {j:Nat},(∀y,Z y=true->V y/\j<=n y)->∀y,Z y=true->upN V n j y=true:=λhZ y hy=>P9.2 (hZ y hy)
 intro x hx j
 constructor
 ·intro hj
  have hj:j<=n x+if S x=true then 1 else 0:=hj
  by_cases hjn:j<=n x
  ·obtain ⟨Z,h1,h2⟩:=(hn x hx j).1 hjn
   exact ⟨Z,⟨h1.dom,λy hy=>G_ (h1.deg y hy) (h.le Z y).1⟩,h2⟩
  have hS:S x=true:=Gb λhs=>by rw [An hs] at hj;omega
  rw [B_ hS] at hj
  have aq:=(ao x<|au x hS).2
  obtain rfl:j=k+1:=by omega
  refine ⟨λy=>S y||upN V n (k+1) y,⟨λy hy=>?_,λy hy=>?_⟩,av7.2<|.inl hS⟩
  ·rcases av7.1 hy with hy|hy
   ·exact (ao y<|au y hy).1
   exact (P9.1 hy).1
  rcases av7.1 hy with hy|hy
  ·exact ay y hy
  obtain ⟨Z,h1,h2,h3⟩:=hn.fj5 (P9.1 hy).1 (P9.1 hy).2
  exact G_ (h1.deg y h2)<|G_ (h.le Z y).1 (M8 λz _ hz=>av7.2<|.inr<|ak h3 z hz)
 rintro ⟨X,hX,ad⟩
 show j<=n x+if S x=true then 1 else 0
 by_cases hb:X u=true/\X v=true
 ·have h1:bu5 V nb (j - 1) X:=⟨hX.dom,λy hy=>by have:=hX.deg y hy;have:=h.le X y;omega⟩
  have a3:=hn.ge h1 hb.1
  have a4:=hn.ge h1 hb.2
  have a5:j<=k+1:=by omega
  by_cases hj2:j<=k
  ·have:bu5 V nb j λy=>X y||upN V n j y:=⟨λy hy=>by
    rcases av7.1 hy with hy|hy
    ·exact hX.dom y hy
    ·exact (P9.1 hy).1,λy hy=>by
    by_cases hc:upN V n j y=true
    ·obtain ⟨Z,z1,z2,z3⟩:=hn.fj5 (P9.1 hc).1 (P9.1 hc).2
     exact G_ (z1.deg y z2)<|M8 λz _ hz=>av7.2<|.inr<|ak z3 z hz
    have aa:X y=true:=(av7.1 hy).elim id λe=>absurd e hc
    have an:y≠u:=λe=>hc (P9.2 ⟨hX.dom y aa,by rw [e];omega⟩)
    have ai:y≠v:=λe=>hc (P9.2 ⟨hX.dom y aa,by rw [e];omega⟩)
    have:=hX.deg y aa
    rw [h.oth X y an ai] at this
    exact G_ this (M8 λz _ hz=>av7.2 (.inl hz))⟩
   have:=hn.ge this (x:=x) (av7.2<|.inl ad)
   omega
  obtain rfl:j=k+1:=by omega
  by_cases hxk1:k+1<=n x
  ·omega
  have aj:∀y,X y=true->k<=n y:=λy hy=>hn.ge h1 hy
  have aq:n x=k:=by have:=aj x ad;omega
  have ah:R x=true:=Gb λah=>by
   have:bu5 V nb (k+1) λy=>(X y && !R y&&Nat.beq (n y) k)||upN V n (k+1) y:=⟨λy hy=>by
    rcases av7.1 hy with hy|hy
    ·exact hX.dom y (L7.1 (L7.1 hy).1).1
    ·exact (P9.1 hy).1,λy hy=>by
    rcases av7.1 hy with hy|hy
    ·have aa:=(L7.1 (L7.1 hy).1).1
     have ab:R y≠true:=by have:=(L7.1 (L7.1 hy).1).2;intro e;rw [e] at this;cases this
     have ae:n y=k:=Nat.eq_of_beq_eq_true (L7.1 hy).2
     have an:y≠u:=λe=>ab (by rw [e];exact a1<|e▸ae)
     have ai:y≠v:=λe=>ab (by rw [e];exact ax<|e▸ae)
     rw [←h.oth _ y an ai]
     refine G_ (hX.deg y aa)<|M8 λz hz M=>?_
     have a0:=aj z M
     by_cases hz1:k+1<=n z
     ·exact av7.2<|.inr<|P9.2 ⟨hX.dom z M,hz1⟩
     have aw:n z=k:=by omega
     refine av7.2<|.inl<|L7.2 ⟨L7.2 ⟨M,?_⟩,by rw [aw];exact Nat.beq_refl k⟩
     cases hRz:R z with
     |false=>rfl
     |true=>exact absurd (ap z y hRz (ar y z (hX.dom y aa) (hX.dom z M) hz) (hX.dom y aa) ae) ab
    obtain ⟨Z,z1,z2,z3⟩:=hn.fj5 (P9.1 hy).1 (P9.1 hy).2
    exact G_ (z1.deg y z2) (M8 λz _ hz=>av7.2 (.inr (ak z3 z hz)))⟩
   have av:R x=false:=by cases e:R x with |false=>rfl|true=>exact absurd e ah
   have:=hn.ge this (x:=x) (av7.2<|.inl<|L7.2 ⟨L7.2 ⟨ad,by rw [av];rfl⟩,by rw [aq];exact Nat.beq_refl k⟩)
   omega
  have hT:=az (λy=>X y&&R y) (λy hy=>(L7.1 hy).2) (λy hy=>by
   obtain ⟨aa,ab⟩:=L7.1 hy
   refine G_ (hX.deg y aa)<|M8 λz hz M=>?_
   have a0:=aj z M
   by_cases hz1:k+1<=n z
   ·exact av7.2<|.inr<|P9.2 ⟨hX.dom z M,hz1⟩
   exact av7.2 (.inl (L7.2 ⟨M,ap y z ab hz (hX.dom z M) (by omega)⟩))) x (L7.2 ⟨ad,ah⟩)
  rw [B_ hT];omega
 have:bu5 V nb j X:=⟨hX.dom,λy hy=>by rw [←h.same hb hy];exact hX.deg y hy⟩
 have:=hn.ge this ad
 omega
theorem bk2.pos(h:bk2 V nb' nb u v)(hn:af0 V nb n):1<=min (n u) (n v):=by
 have:bu5 V nb 1 λy=>decide (y=u\/y=v):=⟨λy M=>by
  rcases Fq M with e|e
  ·rw [e];exact h.vu
  ·rw [e];exact h.vv,λy M=>by
  rcases Fq M with e|e
  ·subst e;rw [h.cu,B_<|As<|.inr rfl];omega
  subst e;rw [h.cv,B_ (As (.inl rfl))];omega⟩
 have h1:=hn.ge this (x:=u) (As<|.inl rfl)
 have h2:=hn.ge this (x:=v) (As<|.inr rfl)
 omega
theorem fa8(hn:af0 V nb n)(h:bk2 V nb' nb u v)(ak:∀x y,V x->V y->y∈nb x->x∈nb y)(hk:k=min (n u) (n v)){R S:Int->Bool}
  (ad:∀x,R x=true->V x/\n x=k) (a6:n u=k->R u=true) (ax:n v=k->R v=true) (au:∀x y,R x=true->y∈nb x->V y->n y=k->R y=true)
  (aw:∀x,S x=true->R x=true) (a1:∀x,S x=true->k<=ao9 nb' (λy=>S y||(upN V n k y && !R y)) x)
  (a3:∀T:Int->Bool,(∀x,T x=true->R x=true)->(∀x,T x=true->k<=ao9 nb' (λy=>T y||(upN V n k y && !R y)) x)->∀x,T x=true->S x=true) :
  af0 V nb' λx=>n x - if R x=true/\S x≠true then 1 else 0:=by
 have ap:∀{Z:Int->Bool} {j:Nat},(∀y,Z y=true->V y/\j<=n y)->∀y,Z y=true->upN V n j y=true:=λhZ y hy=>P9.2 (hZ y hy)
 have a7:=h.pos hn
 have ar:∀y,n y≠k->R y=false:=λy hy=>by
  cases e:R y with
  |false=>rfl
  |true=>exact absurd (ad y e).2 hy
 intro x hx j
 constructor
 ·intro hj
  have ah:j<=n x:=by
   have:j<=n x - if R x=true/\S x≠true then 1 else 0:=hj
   omega
  by_cases hjk:k+1<=j
  ·obtain ⟨Z,h1,h2,M⟩:=hn.fj5 hx ah
   have hb:¬(Z u=true/\Z v=true):=λe=>by have:=(M u e.1).2;have:=(M v e.2).2;omega
   exact ⟨Z,⟨h1.dom,λy hy=>by rw [←h.same hb hy];exact h1.deg y hy⟩,h2⟩
  by_cases hjk2:j<k
  ·refine ⟨upN V n j,⟨λy hy=>(P9.1 hy).1,λy hy=>?_⟩,P9.2 ⟨hx,ah⟩⟩
   by_cases hend:y=u\/y=v
   ·have ab:j+1<=n y:=by rcases hend with e|e<;>rw [e]<;>omega
    obtain ⟨Z,h1,h2,M⟩:=hn.fj5 (P9.1 hy).1 ab
    have h4:=h1.deg y h2
    have h5:ao9 nb Z y<=ao9 nb (upN V n j) y:=M8 λz _ hz=>P9.2 ⟨(M z hz).1,by have:=(M z hz).2;omega⟩
    have:=(h.le (upN V n j) y).2
    omega
   rw [not_or] at hend
   obtain ⟨Z,h1,h2,M⟩:=hn.fj5 (P9.1 hy).1 (P9.1 hy).2
   rw [←h.oth _ y hend.1 hend.2]
   exact G_ (h1.deg y h2)<|M8 λz _ hz=>ap M z hz
  obtain rfl:j=k:=by omega
  have ay:¬(R x=true/\S x≠true):=λe=>by
   have h1:j<=n x - if R x=true/\S x≠true then 1 else 0:=hj
   rw [B_ e,(ad x e.1).2] at h1
   omega
  refine ⟨λy=>S y||(upN V n j y && !R y),⟨λy hy=>?_,λy hy=>?_⟩,?_⟩
  ·rcases av7.1 hy with hy|hy
   ·exact (ad y<|aw y hy).1
   exact (P9.1 (L7.1 hy).1).1
  ·rcases av7.1 hy with hy|hy
   ·exact a1 y hy
   obtain ⟨aa,aj⟩:=L7.1 hy
   have ae:R y=false:=by cases e:R y with |false=>rfl|true=>rw [e] at aj;cases aj
   by_cases ab:n y=j
   ·have a5:y≠u:=λe=>by have:=a6 (e▸ab);rw [←e,ae] at this;cases this
    have a0:y≠v:=λe=>by have:=ax (e▸ab);rw [←e,ae] at this;cases this
    obtain ⟨Z,h1,h2,M⟩:=hn.fj5 (P9.1 aa).1 (P9.1 aa).2
    rw [←h.oth _ y a5 a0]
    refine G_ (h1.deg y h2)<|M8 λz hz an=>av7.2<|.inr<|L7.2 ⟨ap M z an,?_⟩
    cases hRz:R z with
    |false=>rfl
    |true=>
     have:=au z y hRz (ak y z (P9.1 aa).1 (M z an).1 hz) (P9.1 aa).1 ab
     rw [ae] at this;cases this
   have av:j+1<=n y:=by have:=(P9.1 aa).2;omega
   obtain ⟨Z,h1,h2,M⟩:=hn.fj5 (P9.1 aa).1 av
   have hb:¬(Z u=true/\Z v=true):=λe=>by have:=(M u e.1).2;have:=(M v e.2).2;omega
   have h4:=h1.deg y h2
   rw [h.same hb h2] at h4
   have h5:ao9 nb' Z y<=ao9 nb' (λy=>S y||(upN V n j y && !R y)) y:=M8 λz _ hz=>av7.2 (.inr<|L7.2 ⟨P9.2 ⟨(M z hz).1,by have:=(M z hz).2;omega⟩,by rw [ar z (by have:=(M z hz).2;omega)];rfl⟩)
   omega
  cases hRx:R x with
  |false=>exact av7.2 (.inr<|L7.2 ⟨P9.2 ⟨hx,ah⟩,by rw [hRx];rfl⟩)
  |true=>
   refine av7.2<|.inl ?_
   exact Gb λhs=>ay ⟨hRx,hs⟩
 rintro ⟨X,hX,aq⟩
 show j<=n x - if R x=true/\S x≠true then 1 else 0
 have a4:bu5 V nb j X:=⟨hX.dom,λy hy=>G_ (hX.deg y hy) (h.le X y).1⟩
 have ao:∀y,X y=true->j<=n y:=λy hy=>hn.ge a4 hy
 have a9:=ao x aq
 by_cases hc:R x=true/\S x≠true
 ·rw [B_ hc]
  have a8:=(ad x hc.1).2
  refine Gb λhlt=>hc.2 ?_
  obtain rfl:j=k:=by omega
  refine a3 (λy=>X y&&R y) (λy hy=>(L7.1 hy).2) (λy hy=>?_) x<|L7.2 ⟨aq,hc.1⟩
  obtain ⟨az,ae⟩:=L7.1 hy
  refine G_ (hX.deg y az)<|M8 λz hz ai=>?_
  cases hRz:R z with
  |true=>exact av7.2 (.inl<|L7.2 ⟨ai,rfl⟩)
  |false=>exact av7.2 (.inr<|L7.2 ⟨P9.2 ⟨hX.dom z ai,ao z ai⟩,rfl⟩)
 rw [An hc];omega
theorem dx2(vu:V u)(vv:V v)(ne:u≠v)(hn:∀x,(nb x).Nodup)(aa:∀x,(nb' x).Nodup)(ad:v∉nb u)(ab:u∉nb v)
  (hm:∀x y,y∈nb' x↔y∈nb x\/(x=u/\y=v)\/(x=v/\y=u)):bk2 V nb nb' u v:=by
 have M:∀a b:Int,(∀y,y∈nb' a↔y∈nb a\/y=b)->b∉nb a->∀X:Int->Bool,ao9 nb' X a=ao9 nb X a+if X b=true then 1 else 0:=λa b h1 h2 X=>by
  have hp:(nb' a).Perm (b::nb a):=(Hp (aa a)<|Hx.2 ⟨h2,hn a⟩).2 λy=>by rw [h1,Fw];exact Or.comm
  unfold ao9
  rw [(hp.filter X).length_eq,Hj]
  split<;>simp
 refine ⟨vu,vv,ne,λX x hu hv=>?_,M u v (λy=>?_) ad,M v u (λy=>?_) ab⟩
 ·have hp:(nb' x).Perm (nb x):=(Hp (aa x)<|hn x).2 λy=>by
   rw [hm]
   exact ⟨λh=>h.elim id λh=>h.elim (λh=>absurd h.1 hu) λh=>absurd h.1 hv,.inl⟩
  unfold ao9
  rw [(hp.filter X).length_eq]
 ·rw [hm]
  constructor
  ·rintro (h|h|h)
   ·exact .inl h
   ·exact .inr h.2
   exact absurd h.1 ne
  rintro (h|h)
  ·exact .inl h
  exact .inr<|.inl ⟨rfl,h⟩
 rw [hm]
 constructor
 ·rintro (h|h|h)
  ·exact .inl h
  ·exact absurd h.1.symm ne
  exact .inr h.2
 rintro (h|h)
 ·exact .inl h
 exact .inr<|.inr ⟨rfl,h⟩
end
end Go.Sl
namespace Go.Sl
section
variable {α:Type}
def cd2(tri:α->List (α×α))(X:α->Bool)(e:α):Nat:=((tri e).filter λp=>X p.1&&X p.2).length
structure ft3 (E:α->Prop) (tri:α->List (α×α)) (k:Nat) (X:α->Bool):Prop where
 dom:∀e,X e=true->E e
 deg:∀e,X e=true->k<=cd2 tri X e
def bu8(E:α->Prop)(tri:α->List (α×α))(t:α->Nat):Prop:=∀e,E e->∀k:Nat,k<=t e↔∃X,ft3 E tri k X/\X e=true
variable {E E':α->Prop}{tri tri':α->List (α×α)}{t t' b:α->Nat}
theorem bu8.ge(h:bu8 E tri t){k:Nat}{X:α->Bool}(M:ft3 E tri k X){e:α}(he:X e=true):k<=t e:=(h e (M.dom e he) k).2 ⟨X,M,he⟩
theorem bu8.high(h:bu8 E tri t)(hE:∀e,E e->∀p∈tri e,E p.1/\E p.2){e:α}(he:E e):t e<=((tri e).filter λp=>decide (t e<=t p.1/\t e<=t p.2)).length:=by
 obtain ⟨X,M,h2⟩:=(h e he _).1 (Gd _)
 exact G_ (M.deg e h2)<|J1 λp hp hx=>As ⟨h.ge M (L7.1 hx).1,h.ge M (L7.1 hx).2⟩
theorem fw0(h:bu8 E tri t)(h':bu8 E' tri' t')(e0:α)(hE:∀e,E' e->e≠e0->E e)
  (hc:∀e,E' e->e≠e0->∀X Y:α->Bool,(∀f,X f=true->f≠e0->Y f=true)->cd2 tri' X e<=cd2 tri Y e+1) {e:α} (he:E' e) (ab:e≠e0):t' e<=t e+1:=by
 obtain ⟨X,h1,h2⟩:=(h' e he _).1 (Gd _)
 have:ft3 E tri (t' e - 1) λf=>X f && @decide (f≠e0) (Classical.propDecidable _):=⟨λf hf=>by
  obtain ⟨M,aa⟩:=L7.1 hf
  exact hE f (h1.dom f M)<|@Fq _ (Classical.propDecidable _) aa,λf hf=>by
  obtain ⟨M,aa⟩:=L7.1 hf
  have h3:=h1.deg f M
  have h4:=hc f (h1.dom f M) (@Fq _ (Classical.propDecidable _) aa) X (λf=>X f && @decide (f≠e0) (Classical.propDecidable _)) λg hg ab=>L7.2 ⟨hg, @As _ (Classical.propDecidable _) ab⟩
  omega⟩
 have:=h.ge this (e:=e) (L7.2 ⟨h2, @As _ (Classical.propDecidable _) ab⟩)
 omega
theorem fw2(h:bu8 E tri t)(h':bu8 E' tri' t')(hE:∀e,E' e->E e)(hc:∀e,E' e->∀X,cd2 tri' X e<=cd2 tri X e){e:α}(he:E' e):t' e<=t e:=by
 obtain ⟨X,h1,h2⟩:=(h' e he _).1 (Gd _)
 exact h.ge (k:=t' e) ⟨λf M=>hE f<|h1.dom f M,λf M=>G_ (h1.deg f M)<|hc f (h1.dom f M) X⟩ h2
theorem fw1(h:bu8 E tri t)(hE:∀e,E e->∀p∈tri e,E p.1/\E p.2)(hb:∀e,E e->t e<=b e)(hf:∀e,E e->b e<=((tri e).filter λp=>decide (b e<=b p.1/\b e<=b p.2)).length){e:α}(he:E e):b e=t e:=by
 refine Nat.le_antisymm ?_<|hb e he
 refine h.ge (k:=b e) (X:=λf=> @decide (E f/\b e<=b f) (Classical.propDecidable _)) ⟨λf M=>(@Fq _ (Classical.propDecidable _) M).1,λf M=>?_⟩<|@As _ (Classical.propDecidable _) ⟨he,Gd _⟩
 obtain ⟨h1,h2⟩:= @Fq _ (Classical.propDecidable _) M
 refine G_ h2<|G_ (hf f h1)<|J1 λp hp M=>?_
 have h3:=Fq M
 have h4:=hE f h1 p hp
 exact L7.2 ⟨@As _ (Classical.propDecidable _) ⟨h4.1,by omega⟩, @As _ (Classical.propDecidable _) ⟨h4.2,by omega⟩⟩
end
structure HI (l:List Int) (h:Int):Prop where
 ge:0<=h
 has:h<=((l.filter λx=>decide<|h<=x).length:Int)
 most:∀k:Int,k<=((l.filter λx=>decide<|k<=x).length:Int)->k<=h
end Go.Sl
