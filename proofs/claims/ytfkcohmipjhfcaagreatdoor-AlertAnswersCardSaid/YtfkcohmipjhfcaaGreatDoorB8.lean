/- A part of the proofs of statements of this seat: contracts of functions, and the plain laws that they lean on. No conditions. -/
import Derived.Test.YtfkcohmipjhfcaaGreatDoorB7
set_option linter.unusedVariables false
set_option linter.unusedSimpArgs false
set_option linter.unusedSectionVars false
/- Windows: a stream with the cuts of what expires. The plain laws. No Go. No conditions. -/
namespace Go.Sl
variable{n nw:Int}
def ei(e:Ev):Lk:=⟨if e.v<e.u then e.v else e.u,if e.u<e.v then e.v else e.u,e.w,e.lb,e.sg,e.tm⟩
def Q1(n:Lk):List Lk->List Lk
 |[]=>[n]
 |l::ls=>if Lk.lt n l then n::l::ls else if l.p=n.p then n::ls else l::Q1 n ls
def az8(e:Ev)(l:Lk):Bool:=if e.kd=2 then decide (l.u=(ei e).u/\l.v=(ei e).v) else decide (l.u=e.u\/l.v=e.u)
def eo(xs:List Lk)(e:Ev):List Lk:=if e.kd=1 then Q1 (ei e) xs else xs.filter λl=> !az8 e l
def J2(e:Ev):Prop:=(0<=e.u/\e.u<64)/\(e.kd=3->e.v=0)/\(e.kd≠3->(0<=e.v/\e.v<64)/\e.u≠e.v)
instance (e:Ev):Decidable (J2 e):=by unfold J2;infer_instance
def s7(e:Ev):Int:=if e.kd<1\/3<e.kd then 8 else if e.tm<0\/1048576<e.tm then 9 else if ¬J2 e then 6 else if (e.kd=1/\¬F0 e.w e.lb e.sg)\/(e.kd≠1/\(e.w≠0\/e.lb≠0\/e.sg≠0)) then 1 else 0
def ae5(nd:Int)(e:Ev):Int:=if s7 e≠0 then s7 e else if nd<=e.u\/nd<=e.v then 6 else 0
section
variable {e:Ev}{nd:Int}
theorem ak3(h:e.kd<1\/3<e.kd):s7 e=8:=by unfold s7;rw [By h]
theorem aq6(M:1<=e.kd/\e.kd<=3)(h:e.tm<0\/1048576<e.tm):s7 e=9:=by unfold s7;rw [An om,By h]
theorem br3(E:1<=e.kd/\e.kd<=3)(M:0<=e.tm/\e.tm<=1048576)(h:¬J2 e):s7 e=6:=by unfold s7;rw [An om,An om,By h]
theorem M7(h1:1<=e.kd/\e.kd<=3)(E:0<=e.tm/\e.tm<=1048576)(M:J2 e)(h:(e.kd=1/\¬F0 e.w e.lb e.sg)\/(e.kd≠1/\(e.w≠0\/e.lb≠0\/e.sg≠0))):s7 e=1:=by
 unfold s7;rw [An om,An om,An<|λh=>h M,By h]
theorem dh6(M:e.kd=1)(h2:0<=e.tm/\e.tm<=1048576)(E:J2 e):s7 e=if F0 e.w e.lb e.sg then 0 else 1:=by
 unfold s7;rw [An om,An om,An<|λh=>h E]
 by_cases h4:F0 e.w e.lb e.sg
 ·rw [By h4,An];rintro (⟨_,h⟩|⟨h,_⟩)
  ·exact h h4
  exact h M
 rw [An h4,By<|.inl ⟨M,h4⟩]
theorem ab1(h1:1<=e.kd/\e.kd<=3)(h2:0<=e.tm/\e.tm<=1048576)(M:J2 e)(h:e.kd=1->F0 e.w e.lb e.sg)(E:e.kd≠1->e.w=0/\e.lb=0/\e.sg=0):s7 e=0:=by
 unfold s7;rw [An om,An om,An<|λh=>h M,An];rintro (⟨a,b⟩|⟨a,b⟩)
 ·exact b<|h a
 have:=E a;omega
end
structure H6 (nd:Int) (e:Ev):Prop where
 kind:1<=e.kd/\e.kd<=3
 tm:0<=e.tm/\e.tm<=1048576
 ends:J2 e
 right:e.kd=1->F0 e.w e.lb e.sg
 fits:e.u<nd/\e.v<nd
 zero:e.kd≠1->e.w=0/\e.lb=0/\e.sg=0
theorem X2{nd:Int}{e:Ev}:ae5 nd e=0↔H6 nd e:=by
 constructor
 ·intro h
  unfold ae5 s7 at h
  by_cases E:e.kd<1\/3<e.kd
  ·rw [By E] at h;simp at h
  rw [An E] at h
  by_cases M:e.tm<0\/1048576<e.tm
  ·rw [By M] at h;simp at h
  rw [An M] at h
  by_cases h3:¬J2 e
  ·rw [By h3] at h;simp at h
  rw [An h3] at h
  by_cases h4:(e.kd=1/\¬F0 e.w e.lb e.sg)\/(e.kd≠1/\(e.w≠0\/e.lb≠0\/e.sg≠0))
  ·rw [By h4] at h;simp at h
  rw [An h4] at h
  by_cases h5:nd<=e.u\/nd<=e.v
  ·rw [An (by simp),By h5] at h;simp at h
  exact ⟨by omega,by omega,B_.1 h3,λhk=>Gg λhr=>h4<|.inl ⟨hk,hr⟩,by omega,λhk=>by omega⟩
 intro h
 have E:=h.kind
 have M:=h.tm
 have h5:=h.fits
 have hc:s7 e=0:=by
  unfold s7
  rw [An om,An om,An<|by simpa using h.ends,An ?_]
  rintro (⟨a,b⟩|⟨a,b⟩)
  ·exact b<|h.right a
  have:=h.zero a;omega
 unfold ae5
 rw [An (by simp [hc]),An om]
theorem gs1{a b:Lk}:Lk.lt a b↔a.u<b.u\/(a.u=b.u/\a.v<b.v):=Iff.rfl
theorem gq5{a b:Lk}:a.p=b.p↔a.u=b.u/\a.v=b.v:=by unfold Lk.p;simp
theorem H6.lk{nd:Int}{e:Ev}(h:H6 nd e)(M:e.kd≠3):0<=(ei e).u/\(ei e).u<(ei e).v/\(ei e).v<nd:=by
 have h1:=h.ends.2.2 M
 have E:=h.ends.1
 have h3:=h.fits
 unfold ei
 simp only
 refine ⟨?_,?_,?_⟩<;>(repeat' split)<;>omega
theorem H6.az9{nd:Int}{e:Ev}(h:H6 nd e)(M:e.kd=1):az9 nd (ei e)=0:=by
 have h1:=h.lk om
 have E:=h.tm
 exact Z7 om (h.right M)<|by show ¬(e.tm<0\/1048576<e.tm);omega
theorem ba9{n:Lk}{xs:List Lk}{x:Lk}(h:x∈Q1 n xs):x=n\/x∈xs:=by
 induction xs with
 |nil=>simp [Q1] at h;exact .inl h
 |cons l ls ih=>
  unfold Q1 at h
  split at h
  ·simpa using h
  split at h
  ·rcases Gh.1 h with h|h
   ·exact .inl h
   exact .inr<|Fv _ h
  rcases Gh.1 h with h|h
  ·exact .inr<|by rw [h];exact C_
  rcases ih h with h|h
  ·exact .inl h
  exact .inr<|Fv _ h
theorem fg1{n:Lk}{xs:List Lk}(h:xs.Pairwise Lk.lt):(Q1 n xs).Pairwise Lk.lt:=by
 induction xs with
 |nil=>simp [Q1]
 |cons l ls ih=>
  obtain ⟨M,E⟩:=Gp.1 h
  unfold Q1
  by_cases hl:Lk.lt n l
  ·rw [By hl]
   refine Gp.2 ⟨λx hx=>?_,h⟩
   rcases Gh.1 hx with rfl|hx
   ·exact hl
   exact Pt.lin.tr _ _ _ hl<|M x hx
  rw [An hl]
  by_cases he:l.p=n.p
  ·rw [By he]
   refine Gp.2 ⟨λx hx=>?_,E⟩
   have:=M x hx
   unfold Lk.lt at this ⊢
   rw [←he];exact this
  rw [An he]
  refine Gp.2 ⟨λx hx=>?_,ih E⟩
  rcases ba9 hx with rfl|hx
  ·rw [gs1] at hl ⊢; rw [gq5] at he;omega
  exact M x hx
theorem fg0(n:Lk)(xs:List Lk):(Q1 n xs).length<=xs.length+1:=by
 induction xs with
 |nil=>simp [Q1]
 |cons l ls ih=>
  unfold Q1
  split
  ·simp
  split
  ·simp
  simp;omega
theorem y6(xs:List Lk)(e:Ev):(eo xs e).length<=xs.length+1:=by
 unfold eo
 split
 ·exact fg0 _ _
 exact Nat.le_succ_of_le<|Gz _ _
theorem bo4:∀(xs:List Lk) (q:Lk),(∀x∈xs,az9 n x=0)->(q::xs).Pairwise Lk.lt->R3 (az9 n) Lk.lt (some q) xs=0
 |[],q,_,_=>rfl
 |p::ps,q,h1,h2=>by
  obtain ⟨a,b⟩:=Gp.1 h2
  simp only [R3]
  rw [An (by simp [h1 p C_]),By<|a p C_]
  exact bo4 ps p (λx M=>h1 x<|Fv _ M) b
theorem U7{xs:List Lk}:j8 n xs=0↔(0<=n/\n<=64)/\(∀x∈xs,az9 n x=0)/\xs.Pairwise Lk.lt:=by
 constructor
 ·exact K9
 rintro ⟨h1,M,h3⟩
 unfold j8
 rw [An om]
 cases xs with
 |nil=>rfl
 |cons p ps=>
  simp only [R3]
  rw [An (by simp [M p C_])]
  exact bo4 ps p (λx E=>M x<|Fv _ E) h3
theorem ac7{nd:Int}{xs:List Lk}{e:Ev}(h:j8 nd xs=0)(he:H6 nd e):j8 nd (eo xs e)=0:=by
 obtain ⟨h1,M,E⟩:=U7.1 h
 refine U7.2 ⟨h1,?_⟩
 unfold eo
 by_cases hk:e.kd=1
 ·rw [By hk]
  refine ⟨λx hx=>?_,fg1 E⟩
  rcases ba9 hx with rfl|hx
  ·exact he.az9 hk
  exact M x hx
 rw [An hk]
 exact ⟨λx hx=>M x (G_.1 hx).1,E.sublist Jo⟩
theorem an1{nd:Int}{xs:List Lk}{P:Lk->Bool}(h:j8 nd xs=0):j8 nd (xs.filter P)=0:=by
 obtain ⟨h1,M,h3⟩:=U7.1 h
 exact U7.2 ⟨h1,λx E=>M x (G_.1 E).1,h3.sublist Jo⟩
theorem bn4{nd:Int}{xs:List Lk}(h:j8 nd xs=0):∀x∈xs,0<=x.u/\x.u<x.v/\x.v<nd:=λx E=>by
 have M:=(K9 h).2.1 x E
 unfold Sl.az9 at M
 split at M
 ·cases M
 omega
theorem fz8(nw:Int){z:Lk}(M:z.u<z.v)(l:Lk):az8 (bx7 nw z) l=decide (l.p=z.p):=by
 unfold az8 ei bx7
 simp only [Ll]
 rw [An om,By M,Fy,gq5]
theorem bh8(nw:Int):∀(zs xs:List Lk),(∀z∈zs,z.u<z.v)->(zs.map (bx7 nw)).foldl eo xs=xs.filter λx=>zs.all λz=> !decide (x.p=z.p)
 |[],xs,_=>by simp only [My,List.foldl_nil,List.all_nil];exact (Kv.2 λ_ _=>rfl).symm
 |z::zs,xs,h=>by
  have E:=bh8 nw zs (xs.filter λl=> !decide (l.p=z.p)) λy M=>h y (Fv _ M)
  have hs:eo xs (bx7 nw z)=xs.filter λl=> !decide (l.p=z.p):=by
   unfold eo
   rw [An (by show ¬(2:Int)=1;decide)]
   exact Jd λl _=>by rw [fz8 nw (h z C_)]
  rw [Kc,Jp,hs,E,Mf]
  exact Jd λx _=>by rw [List.all_cons,Bool.and_comm]
theorem gm8{xs:List Lk}(h:xs.Pairwise Lk.lt){x y:Lk}(E:x∈xs)(hy:y∈xs)(he:x.p=y.p):x=y:=by
 induction xs with
 |nil=>cases E
 |cons l ls ih=>
  obtain ⟨h1,h2⟩:=Gp.1 h
  have M:∀z∈ls,l.p≠z.p:=λz hz e=>by
   have:=h1 z hz
   unfold Lk.lt at this
   rw [e] at this
   exact Pt.lin.irr _ this
  rcases Gh.1 E with e1|e1<;>rcases Gh.1 hy with e2|e2
  ·rw [e1,e2]
  ·exact absurd (e1▸he)<|M y e2
  ·exact absurd (e2▸he.symm)<|M x e1
  exact ih h2 e1 e2
theorem U5{nd kd wd mo:Int}{xs:List Lk}(h:j8 nd xs=0):(F6 kd wd mo nw xs).foldl eo xs=xs.filter (inW kd wd mo nw xs):=by
 unfold F6
 rw [bh8 nw _ _ λz hz=>(bn4 h z (G_.1 hz).1).2.1]
 refine Jd λx hx=>?_
 cases hp:inW kd wd mo nw xs x
 ·rw [Bool.eq_false_iff]
  intro ha
  have:=Nx.1 ha x (G_.2 ⟨hx,by rw [hp];rfl⟩)
  simp at this
 rw [Nx]
 intro z hz
 obtain ⟨E,M⟩:=G_.1 hz
 rw [Lu,decide_eq_false_iff_not]
 intro he
 have:=gm8 (K9 h).2.2 hx E he
 subst this
 rw [hp] at M
 cases M
theorem H5(kd wd mo nw:Int)(xs:List Lk):(F6 kd wd mo nw xs).length+(xs.filter (inW kd wd mo nw xs)).length=xs.length:=by
 unfold F6
 rw [Gi]
 generalize inW kd wd mo nw xs=P
 induction xs with
 |nil=>rfl
 |cons x xs ih=>simp only [Gw];cases P x<;>simp<;>omega
theorem bw0{nd kd wd mo:Int}{xs:List Lk}(h:j8 nd xs=0)(ht:0<=nw/\nw<=1048576):∀e∈F6 kd wd mo nw xs,H6 nd e:=λe E=>by
 unfold F6 at E
 obtain ⟨x,hx,rfl⟩:=Ha.1 E
 have h1:=bn4 h x (G_.1 hx).1
 have h2:=(K9 h).1
 exact ⟨by show (1:Int)<=2/\(2:Int)<=3;omega,ht,⟨by show 0<=x.u/\x.u<64;omega,λM=>absurd M (by show ¬(2:Int)=3;decide),λ_=>by show (0<=x.v/\x.v<64)/\x.u≠x.v;omega⟩,
  λM=>absurd M (by show ¬(2:Int)=1;decide),by show x.u<nd/\x.v<nd;omega,λ_=>⟨rfl,rfl,rfl⟩⟩
def ae4:List Lk->Int
 |[]=>0
 |x::xs=>xs.foldl (λm y=>if y.tm<m then y.tm else m) x.tm
theorem bg2:∀(xs:List Lk) (m:Int),xs.foldl (λm y=>if y.tm<m then y.tm else m) m<=m/\(xs.foldl (λm y=>if y.tm<m then y.tm else m) m=m\/∃x∈xs,xs.foldl (λm y=>if y.tm<m then y.tm else m) m=x.tm)/\∀y∈xs,xs.foldl (λm y=>if y.tm<m then y.tm else m) m<=y.tm
 |[],m=>⟨Hn _,.inl rfl,λy hy=>by cases hy⟩
 |x::xs,m=>by
  rw [Jp]
  by_cases hx:x.tm<m
  ·rw [By hx]
   obtain ⟨E,M,h3⟩:=bg2 xs x.tm
   refine ⟨by omega,?_,λy hy=>?_⟩
   ·rcases M with M|⟨y,hy,M⟩
    ·exact .inr ⟨x,C_,M⟩
    exact .inr ⟨y,Fv _ hy,M⟩
   rcases Gh.1 hy with rfl|hy
   ·exact E
   exact h3 y hy
  rw [An hx]
  obtain ⟨E,M,h3⟩:=bg2 xs m
  refine ⟨E,?_,λy hy=>?_⟩
  ·rcases M with M|⟨y,hy,M⟩
   ·exact .inl M
   exact .inr ⟨y,Fv _ hy,M⟩
  rcases Gh.1 hy with rfl|hy
  ·omega
  exact h3 y hy
theorem Y8{xs:List Lk}(h:0<xs.length):(∃x∈xs,ae4 xs=x.tm)/\∀y∈xs,ae4 xs<=y.tm:=by
 cases xs with
 |nil=>cases h
 |cons x xs=>
  obtain ⟨E,M,h3⟩:=bg2 xs x.tm
  refine ⟨?_,λy hy=>?_⟩
  ·rcases M with M|⟨y,hy,M⟩
   ·exact ⟨x,C_,M⟩
   exact ⟨y,Fv _ hy,M⟩
  rcases Gh.1 hy with rfl|hy
  ·exact E
  exact h3 y hy
theorem R9{xs:List Lk}{wd z:Int}(h:(∃x∈xs,z=x.tm+wd)/\∀y∈xs,z<=y.tm+wd):z=ae4 xs+wd:=by
 obtain ⟨⟨x,M,e⟩,h1⟩:=h
 obtain ⟨⟨y,hy,e2⟩,E⟩:=Y8 (Jz M)
 have:=h1 y hy
 have:=E x M
 omega
theorem gs7(wd mo nw:Int)(xs:List Lk)(x:Lk):inW 2 wd mo nw xs x=decide (nw - x.tm<wd):=by unfold inW;rw [By rfl]
def gu9(wd mo:Int)(xs:List Lk):List Lk:=xs.filter (inW 2 wd mo (ae4 xs+wd) xs)
theorem bc8{wd mo:Int}{xs:List Lk}(h:0<xs.length):(gu9 wd mo xs).length<xs.length:=by
 unfold gu9
 obtain ⟨⟨x,M,e⟩,_⟩:=Y8 h
 have h1:=H5 2 wd mo (ae4 xs+wd) xs
 have E:0<(F6 2 wd mo (ae4 xs+wd) xs).length:=by
  unfold F6
  rw [Gi]
  refine Jz (a:=x)<|G_.2 ⟨M,?_⟩
  rw [gs7,E_ om];rfl
 omega
def Y0(wd mo T:Int)(xs:List Lk)(out:List Ev):List Lk×List Ev:=
 if h:0<xs.length/\ae4 xs+wd<=T then Y0 wd mo T (gu9 wd mo xs) (out++F6 2 wd mo (ae4 xs+wd) xs) else (xs,out)
termination_by xs.length
decreasing_by exact bc8 h.1
theorem bj0{wd mo T:Int}{xs:List Lk}{out:List Ev}(h:0<xs.length/\ae4 xs+wd<=T):Y0 wd mo T xs out=Y0 wd mo T (xs.filter (inW 2 wd mo (ae4 xs+wd) xs)) (out++F6 2 wd mo (ae4 xs+wd) xs):=by
 rw [Y0,dif_pos h];rfl
theorem ak5{wd mo T:Int}{xs:List Lk}{out:List Ev}(h:¬(0<xs.length/\ae4 xs+wd<=T)):Y0 wd mo T xs out=(xs,out):=by
 rw [Y0,dif_neg h]
def dn4(kd wd mo:Int)(b:List Lk×List Ev)(T:Int):List Lk×List Ev:=if kd=3 then (b.1.filter (inW kd wd mo T b.1),b.2++F6 kd wd mo T b.1) else b
def Z9(kd wd mo T:Int)(s:List Lk×List Ev):List Lk×List Ev:=if kd=2 then Y0 wd mo T s.1 s.2 else s
def ab9(kd wd mo:Int)(s:List Lk×List Ev)(e:Ev):List Lk×List Ev:=dn4 kd wd mo (eo (Z9 kd wd mo e.tm s).1 e,(Z9 kd wd mo e.tm s).2++[e]) e.tm
def q9(kd wd mo:Int)(es:List Ev):List Lk×List Ev:=es.foldl (ab9 kd wd mo) ([],[])
def K5(nd:Int):Int->List Ev->Int
 |_,[]=>0
 |last,e::es=>if ae5 nd e≠0 then ae5 nd e else if e.tm<last then 9 else K5 nd e.tm es
def q8(nd:Int)(es:List Ev):Int:=if nd<0\/64<nd then 1 else if 65536<es.length then 3 else K5 nd 0 es
def K6(nd kd wd mo:Int)(es:List Ev):Int:=if r7 kd wd mo≠0 then r7 kd wd mo else q8 nd es
def G3(es:List Ev)(k:Nat):Int:=if k=0 then 0 else (e_ es ((k:Int) - 1)).tm
theorem G0(es:List Ev)(k:Nat):G3 es (k+1)=(e_ es k).tm:=by
 unfold G3;rw [An om,show ((k+1:Nat):Int) - 1=(k:Int) by omega]
section
variable {nd:Int}{es:List Ev}{k:Nat}
theorem Q7(E:k<es.length)(h1:ae5 nd (e_ es k)=0)(M:¬(e_ es k).tm<G3 es k):K5 nd (G3 es k) (es.drop k)=K5 nd (G3 es (k+1)) (es.drop (k+1)):=by
 rw [Eh es k E,G0];simp only [K5];rw [An (by simp [h1]),An M]
theorem L7(M:k<es.length)(E:ae5 nd (e_ es k)≠0):K5 nd (G3 es k) (es.drop k)=ae5 nd (e_ es k):=by
 rw [Eh es k M];simp only [K5];rw [By E]
theorem ab6(E:k<es.length)(h1:ae5 nd (e_ es k)=0)(M:(e_ es k).tm<G3 es k):K5 nd (G3 es k) (es.drop k)=9:=by
 rw [Eh es k E];simp only [K5];rw [An (by simp [h1]),By M]
theorem ae8(M:es.length<=k):K5 nd (G3 es k) (es.drop k)=0:=by rw [Hb M];rfl
theorem be1(h:K5 nd 0 es=0):∀k,k<=es.length->K5 nd (G3 es k) (es.drop k)=0/\∀j,j<k->H6 nd (e_ es j)/\G3 es j<=(e_ es j).tm
 |0,_=>⟨h,λj hj=>absurd hj<|Kd _⟩
 |k+1,hk=>by
  obtain ⟨M,h2⟩:=be1 h k om
  have h3:ae5 nd (e_ es k)=0:=Gg λE=>E (by rw [L7 om E] at M;exact M)
  have h4:¬(e_ es k).tm<G3 es k:=λE=>by rw [ab6 om h3 E] at M;cases M
  refine ⟨by rw [←Q7 om h3 h4];exact M,λj hj=>?_⟩
  rcases Nq.1 hj with hj|rfl
  ·exact h2 j hj
  exact ⟨X2.1 h3,by omega⟩
structure da8 (nd:Int) (es:List Ev):Prop where
 nodes:0<=nd/\nd<=64
 len:es.length<=65536
 fit:∀j:Nat,j<es.length->H6 nd (e_ es j)
 asc:∀j:Nat,j<es.length->G3 es j<=(e_ es j).tm
theorem av3(h:q8 nd es=0):da8 nd es:=by
 unfold q8 at h
 by_cases h1:nd<0\/64<nd
 ·rw [By h1] at h;cases h
 rw [An h1] at h
 by_cases h2:65536<es.length
 ·rw [By h2] at h;cases h
 rw [An h2] at h
 have M:=(be1 h es.length<|Gk _).2
 exact ⟨by omega,by omega,λj hj=>(M j hj).1,λj hj=>(M j hj).2⟩
end
theorem H9{kd wd mo:Int}{es:List Ev}{k:Nat}(M:k<es.length):q9 kd wd mo (es.take (k+1))=ab9 kd wd mo (q9 kd wd mo (es.take k)) (e_ es k):=by
 unfold q9;rw [Cn es k M,Hw];rfl
theorem Q8{xs:List Lk}{es:List Ev}{k:Nat}(M:k<es.length):(es.take (k+1)).foldl eo xs=eo ((es.take k).foldl eo xs) (e_ es k):=by
 rw [Cn es k M,Hw];rfl
theorem cv4{out es:List Ev}{k:Nat}(M:k<es.length):out++es.take (k+1)=out++es.take k++[e_ es k]:=by
 rw [Cn es k M,H1]
theorem ar7:∀(es:List Ev) (xs:List Lk),(es.foldl eo xs).length<=xs.length+es.length
 |[],xs=>Gk _
 |e::es,xs=>by
  have E:=ar7 es (eo xs e)
  have M:=y6 xs e
  rw [Jp,Fu];omega
structure SlI (nd kd wd:Int) (last:Int) (xs:List Lk):Prop where
 val:j8 nd xs=0
 tm:∀x∈xs,x.tm<=last
 al:kd=2->∀x∈xs,last<x.tm+wd
section
variable {nd kd wd mo last T:Int}{xs:List Lk}{out:List Ev}
theorem SlI.nil(h:0<=nd/\nd<=64):SlI nd kd wd last []:=⟨U7.2 ⟨h,λx M=>(by cases M),List.Pairwise.nil⟩,λx M=>(by cases M),λ_ x M=>(by cases M)⟩
theorem SlI.filter(h:SlI nd kd wd last xs)(P:Lk->Bool):SlI nd kd wd last (xs.filter P):=
 ⟨an1 h.val,λx M=>h.tm x (G_.1 M).1,λE x M=>h.al E x (G_.1 M).1⟩
theorem SlI.later(h:SlI nd kd wd last xs)(hT:last<=T)(hk:kd=2->¬(0<xs.length/\ae4 xs+wd<=T)):SlI nd kd wd T xs:=
 ⟨h.val,λx M=>by have:=h.tm x M;omega,λE x M=>by
  have h3:=hk E
  have h4:0<xs.length:=Jz M
  have h5:=(Y8 h4).2 x M
  omega⟩
theorem SlI.step(h:SlI nd kd wd T xs){e:Ev}(he:H6 nd e)(ht:e.tm=T)(hw:kd=2->1<=wd):SlI nd kd wd T (eo xs e):=by
 have M:∀x∈eo xs e,x.tm=T\/x∈xs:=λx hx=>by
  unfold eo at hx
  split at hx
  ·rcases ba9 hx with rfl|hx
   ·exact .inl ht
   exact .inr hx
  exact .inr (G_.1 hx).1
 refine ⟨ac7 h.val he,λx hx=>?_,λE x hx=>?_⟩
 ·rcases M x hx with h1|h1
  ·omega
  exact h.tm x h1
 rcases M x hx with h1|h1
 ·have:=hw E;omega
 exact h.al E x h1
theorem SlI.ask(h:SlI nd kd wd last xs)(E:r7 kd wd mo=0){t:Int}(ht:0<=t/\t<=1048576)(hl:last<=t):aq8 nd xs kd wd mo t=0:=by
 unfold aq8
 rw [An (by simp [E]),An<|by simp [h.val],An]
 rintro (h1|h1|h1)
 ·omega
 ·omega
 obtain ⟨x,hx,M⟩:=Lo.1 h1
 have:=h.tm x hx
 have:=Gc M
 omega
theorem SlI.first(h:SlI nd kd wd last xs)(hk:kd=2)(E:0<xs.length):last<ae4 xs+wd:=by
 obtain ⟨⟨x,M,e⟩,_⟩:=Y8 E
 have:=h.al hk x M
 omega
end
end Go.Sl
/- Windows: setting and cutting du1 in place. The plain laws. No Go. No conditions. -/
namespace Go.Sl
theorem Lk.bb9(a b:Lk):Lk.cmp a b=0↔a.p=b.p:=Pt.bb9 _ _
theorem bu2{n:Lk}{ys:List Lk}:∀(xs:List Lk),(∀x∈xs,Lk.lt x n)->Q1 n (xs++ys)=xs++Q1 n ys
 |[],_=>rfl
 |x::xs,h=>by
  have M:=h x C_
  rw [Mb,Mb]
  conv=>lhs;unfold Q1
  rw [An (show ¬Lk.lt n x from λE=>Pt.lin.asymm M E),An<|λE=>by unfold Lk.lt at M;rw [E] at M;exact Pt.lin.irr _ M,bu2 xs λy hy=>h y<|Fv _ hy]
section
variable {xs:List Lk}{n:Lk}{i:Nat}{q:Bool}
theorem cw8(h:dc0 Lk.cmp xs n i q)(ha:xs.Pairwise Lk.lt):∀x∈xs.take i,Lk.lt x n:=λx hx=>by
 obtain ⟨j,hj,rfl⟩:=Ki hx
 rw [Fx] at hj
 have E:=h.le
 have e:(xs.take i)[j]=e_ xs j:=by rw [Cj xs j om];simp
 rw [e]
 have M:=(Lk.ac0 _ _).1 (h.low om)
 rw [show (i:Int) - 1=((i - 1:Nat):Int) by omega] at M
 by_cases hq:j=i - 1
 ·rw [hq];exact M
 exact Pt.lin.tr _ _ _ ((aa8 xs).1 ha j (i - 1) om om) M
theorem am3(h:dc0 Lk.cmp xs n i q)(ha:xs.Pairwise Lk.lt)(hq:q=false):Q1 n xs=xs.take i++[n]++xs.drop i:=by
 conv=>lhs;rw [←Mm i xs]
 rw [bu2 _ (cw8 h ha),H1]
 congr 1
 rcases Lg i xs.length with hi|hi
 ·have E:=h.is
  rw [hq] at E
  have M:=Gt E.symm
  have h3:=h.high hi
  rw [Lk.ac0] at h3
  rw [Eh xs i hi]
  unfold Q1
  rw [Lk.bb9] at M
  have h4:(e_ xs i).p≠n.p:=λe=>M ⟨hi,e⟩
  rw [By,List.singleton_append]
  rcases Pt.lin.tri n.p (e_ xs i).p with h5|h5|h5
  ·exact h5
  ·exact absurd h5.symm h4
  exact absurd h5 h3
 rw [Hb hi];rfl
theorem ac9(h:dc0 Lk.cmp xs n i q)(ha:xs.Pairwise Lk.lt)(hq:q=true):i<xs.length/\Q1 n xs=xs.set i n:=by
 have h1:=h.is
 rw [hq] at h1
 obtain ⟨hi,M⟩:=Gc h1.symm
 refine ⟨hi,?_⟩
 rw [Lk.bb9] at M
 conv=>lhs;rw [←Mm i xs]
 rw [bu2 _ (cw8 h ha),Eh xs i hi]
 unfold Q1
 rw [An (λE=>by unfold Lk.lt at E;rw [M] at E;exact Pt.lin.irr _ E),By M,Ml,By hi]
theorem ff8(hi:i<xs.length)(h:e_ xs i=n):xs.set i n=xs:=by
 rw [←h,Cj xs i hi];exact List.set_getElem_self hi
end
section
variable {P:Lk->Bool}{xs:List Lk}{j:Nat}
def M4(P:Lk->Bool)(xs:List Lk)(j:Nat):Nat:=((xs.take j).filter P).length
def G9(P:Lk->Bool)(xs:List Lk)(j:Nat):List Lk:=(xs.take j).filter P++xs.drop j
theorem U3:G9 P xs 0=xs:=by simp [G9]
theorem aw1:M4 P xs 0=0:=by simp [M4]
theorem du6(h:xs.length<=j):G9 P xs j=xs.filter P:=by unfold G9;rw [Gb h,Hb h,Hq]
theorem bh0:(G9 P xs j).length=M4 P xs j+(xs.length - j):=by simp [G9,M4]
theorem fj7:M4 P xs j<=j:=by
 unfold M4
 have:=Gz P (xs.take j)
 rw [Fx] at this
 omega
theorem cx0(h:j<xs.length):e_ (G9 P xs j) (M4 P xs j:Int)=e_ xs j:=by
 have M:=bh0 (P:=P) (xs:=xs) (j:=j)
 rw [Cj _ _ om,Cj xs j h]
 unfold G9 M4
 rw [Nk (Gk _)]
 simp
theorem fj8(h:j<xs.length)(M:P (e_ xs j)=true):G9 P xs (j+1)=G9 P xs j/\M4 P xs (j+1)=M4 P xs j+1:=by
 unfold G9 M4
 rw [Cn xs j h,Hc,Eh xs j h]
 simp [M]
theorem fy8(h:j<xs.length)(M:P (e_ xs j)=false):M4 P xs (j+1)=M4 P xs j:=by
 unfold M4
 rw [Cn xs j h,Hc]
 simp [M]
theorem du5(h:j<xs.length)(E:P (e_ xs j)=false){q:Nat}(hq:q=xs.length - j - 1) :
  (G9 P xs j).take (M4 P xs j)++((G9 P xs j).drop (M4 P xs j+1)).take q++(G9 P xs j).drop (M4 P xs j+q)=G9 P xs (j+1)++(G9 P xs j).drop (M4 P xs j+q):=by
 congr 1
 have e:G9 P xs j=(xs.take j).filter P++(e_ xs j::xs.drop (j+1)):=by unfold G9;rw [←Eh xs j h]
 have e2:G9 P xs (j+1)=(xs.take j).filter P++xs.drop (j+1):=by
  unfold G9
  rw [Cn xs j h,Hc]
  simp [E]
 have M:M4 P xs j=((xs.take j).filter P).length:=rfl
 rw [e2,e,M]
 generalize (xs.take j).filter P=A
 rw [List.take_left' rfl,show A.length+1=(A++[e_ xs j]).length by simp,show A++e_ xs j::xs.drop (j+1)=(A++[e_ xs j])++xs.drop (j+1) by simp,List.drop_left' rfl,Gb<|by rw [Ge];omega]
theorem du4{zs:List Lk}{m:Nat}(M:m=(G9 P xs (j+1)).length):(G9 P xs (j+1)++zs).take m=G9 P xs (j+1):=by
 rw [M];exact List.take_left' rfl
end
theorem bx2{nd kd wd mo nw:Int}{xs:List Lk}(h:j8 nd xs=0)(M:0<=nw/\nw<=1048576):∀j:Nat,j<(F6 kd wd mo nw xs).length->H6 nd (e_ (F6 kd wd mo nw xs) j):=λj hj=>bw0 h M _ (B3 om om)
theorem gk3{nd:Int}{e:Ev}(h:H6 nd e):∀j:Nat,j<[e].length->H6 nd (e_ [e] (j:Int)):=λj hj=>by
 obtain rfl:j=0:=by simpa using hj
 exact h
end Go.Sl
/- Windows: the reference's way to apply an event. The plain laws. No Go. No conditions. -/
namespace Go.Sl
theorem Q3{e:Ev}{l:Lk}(h:e.kd=2):az8 e l=decide (l.p=(ei e).p):=by unfold az8;rw [By h,Fy,gq5]
theorem G4{e:Ev}{l:Lk}(h:¬e.kd=2):az8 e l=decide (l.u=e.u\/l.v=e.u):=by unfold az8;rw [An h]
structure ApI (xs:List Lk) (e:Ev) (k:Nat) (O:List Lk) (q:Bool):Prop where
 eq:eo xs e=O++(if e.kd=1 then (if q=true then xs.drop k else Q1 (ei e) (xs.drop k)) else (xs.drop k).filter λl=> !az8 e l)
 aft:q=true->e.kd=1->∀x∈xs.drop k,Lk.lt (ei e) x
 oth:e.kd≠1->q=true
section
variable {xs O:List Lk}{e:Ev}{k:Nat}{q:Bool}
theorem ApI.start:ApI xs e 0 [] (decide (e.kd≠1)):=by
 refine ⟨?_,λh M=>absurd M<|Gc h,λh=>D_ h⟩
 unfold eo
 by_cases h:e.kd=1
 ·rw [By h,By h,An<|by simp [h]];rfl
 rw [An h,An h];rfl
theorem dt4(E:xs.Pairwise Lk.lt)(M:k<xs.length):∀x∈xs.drop (k+1),Lk.lt (e_ xs k) x:=by
 have h:=E.sublist (List.drop_sublist k xs)
 rw [Eh xs k M] at h
 exact (Gp.1 h).1
theorem ApI.ins(h:ApI xs e k O q)(ha:xs.Pairwise Lk.lt)(E:k<xs.length)(hq:(!q)=true)(hl:Pt.lt (ei e).p (e_ xs k).p):ApI xs e k (O++[ei e]) true:=by
 have M:q=false:=by simpa using hq
 subst M
 have h1:e.kd=1:=Gg λhn=>by have:=h.oth hn;cases this
 refine ⟨?_,λ_ _ x hx=>?_,λ_=>rfl⟩
 ·rw [h.eq,By h1,By h1,An dc,By rfl,Eh xs k E]
  conv=>lhs;unfold Q1
  rw [By (show Lk.lt (ei e) (e_ xs k) from hl),H1];rfl
 rw [Eh xs k E] at hx
 rcases Gh.1 hx with rfl|hx
 ·exact hl
 exact Pt.lin.tr _ _ _ hl<|dt4 ha E x hx
theorem ApI.hit(h:ApI xs e k O q)(ha:xs.Pairwise Lk.lt)(hk:k<xs.length)(h1:e.kd=1)(E:(e_ xs k).p=(ei e).p):ApI xs e (k+1) (O++[ei e]) true:=by
 have hn:¬Lk.lt (ei e) (e_ xs k):=λM=>by unfold Lk.lt at M;rw [E] at M;exact Pt.lin.irr _ M
 have aa:q=false:=Gg λhc=>hn (h.aft (by simpa using hc) h1 _<|by rw [Eh xs k hk];exact C_)
 subst aa
 refine ⟨?_,λ_ _ x hx=>?_,λ_=>rfl⟩
 ·rw [h.eq,By h1,By h1,An dc,By rfl,Eh xs k hk]
  conv=>lhs;unfold Q1
  rw [An hn,By E,H1];rfl
 have:=dt4 ha hk x hx
 unfold Lk.lt at this ⊢
 rw [←E];exact this
theorem ApI.drop(h:ApI xs e k O q)(hk:k<xs.length)(M:e.kd≠1)(hh:az8 e (e_ xs k)=true):ApI xs e (k+1) O q:=
 ⟨by rw [h.eq,An M,An M,Eh xs k hk,Gw,hh];rfl,λ_ E=>absurd E M,h.oth⟩
theorem ApI.fe4(h:ApI xs e k O q)(ha:xs.Pairwise Lk.lt)(E:k<xs.length)(hM:(!q)=true->¬Pt.lt (ei e).p (e_ xs k).p)(hp:e.kd=1->(e_ xs k).p≠(ei e).p)(h2:e.kd≠1->az8 e (e_ xs k)=false) :
  ApI xs e (k+1) (O++[e_ xs k]) q:=by
 refine ⟨?_,λhq M x hx=>h.aft hq M x<|by rw [Eh xs k E];exact Fv _ hx,h.oth⟩
 rw [h.eq,Eh xs k E]
 by_cases M:e.kd=1
 ·rw [By M,By M]
  cases q
  ·rw [An dc,An dc]
   conv=>lhs;unfold Q1
   rw [An (show ¬Lk.lt (ei e) (e_ xs k) from hM rfl),An<|hp M,H1];rfl
  rw [By rfl,By rfl,H1];rfl
 rw [An M,An M,Gw,h2 M,H1];rfl
theorem ApI.len(h:ApI xs e k O q):O.length<=xs.length+1:=by
 have M:=Fz List.length h.eq
 rw [A_] at M
 have E:=y6 xs e
 omega
theorem H6.chk{nd:Int}(h:H6 nd e):s7 e=0:=Gg λE=>by
 have M:=X2.2 h
 unfold ae5 at M
 rw [By E] at M
 exact E M
theorem ApI.fin(h:ApI xs e k O q)(E:xs.length<=k)(hq:(!q)=false):O=eo xs e:=by
 have M:q=true:=by simpa using hq
 rw [h.eq,Hb E,M]
 by_cases h1:e.kd=1
 ·rw [By h1,By rfl,Hq]
 rw [An h1,List.filter_nil,Hq]
theorem ApI.dv9(h:ApI xs e k O q)(hk:xs.length<=k)(E:(!q)=true):O++[ei e]=eo xs e:=by
 have M:q=false:=by simpa using E
 have h1:e.kd=1:=Gg λhn=>by have:=h.oth hn;rw [M] at this;cases this
 rw [h.eq,Hb hk,M,By h1,An dc];rfl
end
end Go.Sl
/- Windows: what a stream with cuts leads to. The plain laws. No Go. No conditions. -/
namespace Go.Sl
variable{T kd last mo nd t wd:Int}{xs:List Lk}{m:Nat}{es out:List Ev}
theorem bc9{P:List Lk->List Ev->Prop}(hs:∀xs out,(0<xs.length/\ae4 xs+wd<=T)->P xs out->P (xs.filter (inW 2 wd mo (ae4 xs+wd) xs)) (out++F6 2 wd mo (ae4 xs+wd) xs)) :
  ∀(n:Nat) (xs:List Lk) (out:List Ev),xs.length<=n->P xs out->P (Y0 wd mo T xs out).1 (Y0 wd mo T xs out).2/\¬(0<(Y0 wd mo T xs out).1.length/\ae4 (Y0 wd mo T xs out).1+wd<=T)
 |n,xs,out,hn,hP=>by
  by_cases h:0<xs.length/\ae4 xs+wd<=T
  ·rw [bj0 h]
   have M:(xs.filter<|inW 2 wd mo (ae4 xs+wd) xs).length<xs.length:=bc8 h.1
   cases n with
   |zero=>omega
   |succ n=>exact bc9 hs n _ _ om (hs xs out h hP)
  rw [ak5 h];exact ⟨hP,h⟩
theorem cm8{n:Lk}{P:Lk->Bool}(hn:P n=true)(ha:xs.Pairwise Lk.lt):Q1 n (xs.filter P)=(Q1 n xs).filter P:=by
 induction xs with
 |nil=>simp [Q1,hn]
 |cons l ls ih=>
  obtain ⟨h1,E⟩:=Gp.1 ha
  have hlt:∀{z:Lk},(z.p=n.p\/Lk.lt n z)->(∀x∈ls,Lk.lt z x)->Q1 n (ls.filter P)=n::ls.filter P:=fun {z} hz hx=>by
   cases hf:ls.filter P with
   |nil=>rfl
   |cons y ys=>
    have M:Lk.lt z y:=hx y (G_.1<|by rw [hf];exact C_).1
    unfold Q1
    rw [By]
    rcases hz with hz|hz
    ·unfold Lk.lt at M ⊢; rw [←hz];exact M
    exact Pt.lin.tr _ _ _ hz M
  conv=>rhs;unfold Q1
  by_cases hl:Lk.lt n l
  ·rw [By hl,show (n::l::ls).filter P=n::(l::ls).filter P by rw [Gw,By hn]]
   by_cases hp:P l=true
   ·rw [show (l::ls).filter P=l::ls.filter P by rw [Gw,By hp]];unfold Q1;rw [By hl]
   rw [show (l::ls).filter P=ls.filter P by rw [Gw,An hp]];exact hlt (.inr hl) h1
  rw [An hl]
  by_cases he:l.p=n.p
  ·rw [By he,Gw,Gw,By hn]
   by_cases hp:P l=true
   ·rw [By hp];unfold Q1;rw [An hl,By he]
   rw [An hp];exact hlt (.inl he) h1
  rw [An he,Gw,Gw]
  by_cases hp:P l=true
  ·rw [By hp,By hp];conv=>lhs;unfold Q1
   rw [An hl,An he,ih E]
  rw [An hp,An hp];exact ih E
theorem cb1{e:Ev}{P:Lk->Bool}(hn:P (ei e)=true)(M:xs.Pairwise Lk.lt):eo (xs.filter P) e=(eo xs e).filter P:=by
 unfold eo
 by_cases h:e.kd=1
 ·rw [By h,By h];exact cm8 hn M
 rw [An h,An h,Mf,Mf]
 exact Jd λx _=>Bool.and_comm _ _
theorem ft8{α:Type}{R:α->α->Prop}(h:∀a c,R a c):∀l:List α,l.Pairwise R
 |[]=> .nil
 |x::xs=>Gp.2 ⟨λy _=>h x y,ft8 h xs⟩
def Z8(wd T:Int)(x:Lk):Bool:=decide (T - x.tm<wd)
theorem ce2(wd mo T:Int)(ys xs:List Lk):xs.filter (inW 2 wd mo T ys)=xs.filter (Z8 wd T):=Jd λx _=>gs7 wd mo T ys x
theorem ch0(h:t<=T)(xs:List Lk):(xs.filter (Z8 wd t)).filter (Z8 wd T)=xs.filter (Z8 wd T):=by
 rw [Mf]
 refine Jd λx _=>?_
 unfold Z8
 by_cases h1:T - x.tm<wd
 ·rw [D_ h1,D_ (show t - x.tm<wd by omega)];rfl
 rw [E_ h1];rfl
structure AgB (nd wd last T:Int) (m:Nat) (all xs:List Lk) (out:List Ev):Prop where
 inv:SlI nd 2 wd last xs
 st:xs=out.foldl eo []
 fit:∀e∈out,H6 nd e
 asc:out.Pairwise λa b=>a.tm<=b.tm
 le:∀e∈out,e.tm<=T
 bef:∀e∈out,∀x∈xs,e.tm<=x.tm+wd
 al:xs.filter (Z8 wd T)=all.filter (Z8 wd T)
 sum:xs.length+out.length<=m
theorem AgB.step{all:List Lk}(h:AgB nd wd last T m all xs out)(h0:0<=last)(hT:T<=1048576)(hs:0<xs.length/\ae4 xs+wd<=T) :
  AgB nd wd last T m all (xs.filter<|inW 2 wd mo (ae4 xs+wd) xs) (out++F6 2 wd mo (ae4 xs+wd) xs):=by
 have hf:=h.inv.first rfl hs.1
 obtain ⟨⟨x0,E,e0⟩,ab⟩:=Y8 hs.1
 refine ⟨h.inv.filter _,?_,λe he=>?_,Jl.2 ⟨h.asc,?_,λa ha c hc=>?_⟩,λe he=>?_,λe he x hx=>?_,?_,?_⟩
 ·rw [Hw,←h.st,U5 h.inv.val]
 ·rcases Gu.1 he with he|he
  ·exact h.fit e he
  exact bw0 h.inv.val om e he
 ·unfold F6
  rw [List.pairwise_map]
  exact ft8 (λa c=>Hn _) _
 ·unfold F6 at hc
  obtain ⟨z,hz,rfl⟩:=Ha.1 hc
  show a.tm<=ae4 xs+wd
  rw [e0];exact h.bef a ha x0 E
 ·rcases Gu.1 he with he|he
  ·exact h.le e he
  unfold F6 at he
  obtain ⟨z,hz,rfl⟩:=Ha.1 he
  exact hs.2
 ·obtain ⟨aa,M⟩:=G_.1 hx
  rcases Gu.1 he with he|he
  ·exact h.bef e he x aa
  unfold F6 at he
  obtain ⟨z,hz,rfl⟩:=Ha.1 he
  rw [gs7] at M
  have:=Gc M
  show ae4 xs+wd<=x.tm+wd
  omega
 ·rw [ce2,ch0 hs.2,h.al]
 have h1:=H5 2 wd mo (ae4 xs+wd) xs
 have h2:=h.sum
 rw [A_];omega
theorem AgB.aged{all:List Lk}(h:AgB nd wd last T m all xs out)(h0:0<=last)(hl:last<=T)(hT:T<=1048576) :
  AgB nd wd T T m all (Y0 wd mo T xs out).1 (Y0 wd mo T xs out).2:=by
 obtain ⟨M,E⟩:=bc9 (mo:=mo) (P:=λxs out=>AgB nd wd last T m all xs out) (λxs out hs hP=>hP.step h0 hT hs) xs.length xs out (Gk _) h
 exact {M with inv:=M.inv.later hl λ_=>E}
structure fv6 (nd wd:Int) (es:List Ev) (k:Nat) (s:List Lk×List Ev):Prop where
 inv:SlI nd 2 wd (G3 es k) s.1
 st:s.1=s.2.foldl eo []
 fit:∀e∈s.2,H6 nd e
 asc:s.2.Pairwise λa b=>a.tm<=b.tm
 le:∀e∈s.2,e.tm<=G3 es k
 al:s.1=((es.take k).foldl eo []).filter (Z8 wd<|G3 es k)
 sum:s.1.length+s.2.length<=2*k
theorem ce8(h:SlI nd 2 wd T xs):xs.filter (Z8 wd T)=xs:=Kv.2 λx M=>by
 have:=h.al rfl x M
 unfold Z8
 exact D_ om
theorem ai3(E:0<=nd/\nd<=64):∀(es:List Ev) (xs:List Lk),j8 nd xs=0->(∀e∈es,H6 nd e)->j8 nd (es.foldl eo xs)=0
 |[],xs,hx,_=>hx
 |e::es,xs,hx,he=>ai3 E es (eo xs e) (ac7 hx<|he e C_) λy M=>he y (Fv _ M)
theorem ca3(M:0<=nd/\nd<=64):j8 nd []=0:=(SlI.nil (kd:=1) (wd:=0) (last:=0) M).val
theorem da8.mem(h:da8 nd es):∀e∈es,H6 nd e:=λe M=>by
 obtain ⟨j,hj,rfl⟩:=E1 M
 exact h.fit j hj
theorem fv6.all{nd wd mo:Int}{es:List Ev}(h:da8 nd es)(hw:1<=wd):∀k,k<=es.length->fv6 nd wd es k (q9 2 wd mo (es.take k))
 |0,_=>⟨SlI.nil h.nodes,rfl,λe he=>(by cases he),List.Pairwise.nil,λe he=>(by cases he),rfl,Gk _⟩
 |k+1,hk=>by
  have E:=fv6.all (mo:=mo) h hw k om
  have aa:=h.fit k om
  have ad:=h.asc k om
  have h0:0<=G3 es k:=by
   cases k with
   |zero=>exact Hn _
   |succ k=>rw [G0];exact (h.fit k om).tm.1
  rw [H9 om]
  generalize hs:q9 2 wd mo (es.take k)=s at E ⊢
  generalize hee:e_ es k=e at aa ad ⊢
  obtain ⟨xs,out⟩:=s
  have hA:AgB nd wd (G3 es k) e.tm (2*k) ((es.take k).foldl eo []) xs out:=
   ⟨E.inv,E.st,E.fit,E.asc,λe' ab=>by have:=E.le e' ab;omega,λe' ab x hx=>by have h1:=E.le e' ab;have h2:=E.inv.al rfl x hx;omega,by
    have:=E.al
    simp only at this
    rw [this,ch0 ad],E.sum⟩
  have M:=hA.aged (mo:=mo) h0 ad aa.tm.2
  have ah:ab9 2 wd mo (xs,out) e=(eo (Y0 wd mo e.tm xs out).1 e,(Y0 wd mo e.tm xs out).2++[e]):=rfl
  rw [ah]
  generalize Y0 wd mo e.tm xs out=a at M
  have hlt:G3 es (k+1)=e.tm:=by rw [G0,hee]
  have hI:=M.inv.step aa rfl (λ_=>hw)
  have ae:j8 nd ((es.take k).foldl eo [])=0:=ai3 h.nodes _ _ (ca3 h.nodes) λx hx=>h.mem x (Lh hx)
  refine ⟨by rw [hlt];exact hI,?_,λx hx=>?_,Jl.2 ⟨M.asc,Ln _ _,λx hx y hy=>?_⟩,λx hx=>?_,?_,?_⟩
  ·simp only;rw [Hw,←M.st];rfl
  ·rcases Gu.1 hx with hx|hx
   ·exact M.fit x hx
   rw [Gj.1 hx];exact aa
  ·rw [Gj.1 hy];exact M.le x hx
  ·rw [hlt]
   rcases Gu.1 hx with hx|hx
   ·exact M.le x hx
   rw [Gj.1 hx];exact Hn _
  ·simp only
   have ai:Z8 wd e.tm (ei e)=true:=by unfold Z8;exact D_ (by show e.tm - e.tm<wd;omega)
   rw [hlt,Q8 om,hee,←cb1 ai (K9 ae).2.2,←M.al,ce8 M.inv]
  have h1:=y6 a.1 e
  have h2:=M.sum
  simp only [A_,Fu,F_];omega
theorem du2:∀(K:List Lk),K≠[]->K.Pairwise Lk.lt->∃z∈K,∀y∈K,y=z\/Lk.late y z
 |[],h,_=>absurd rfl h
 |[x],_,_=>⟨x,C_,λy hy=> .inl<|by simpa using hy⟩
 |x::y::ys,_,hp=>by
  obtain ⟨h1,h2⟩:=Gp.1 hp
  obtain ⟨z,hz,E⟩:=du2 (y::ys) (by simp) h2
  have aa:=h1 z hz
  by_cases hl:Lk.late x z
  ·exact ⟨z,Fv _ hz,λw hw=>by
    rcases Gh.1 hw with rfl|hw
    ·exact .inr hl
    exact E w hw⟩
  have M:Lk.late z x:=by unfold Lk.late Lk.lt Pt.lt at *; omega
  refine ⟨x,C_,λw hw=>?_⟩
  rcases Gh.1 hw with rfl|hw
  ·exact .inl rfl
  rcases E w hw with rfl|hwz
  ·exact .inr M
  right;unfold Lk.late Lk.lt Pt.lt at *; omega
theorem fu0{z:Lk}:∀(K:List Lk),K.Pairwise Lk.lt->(K.filter λy=>decide (y=z)).length<=1
 |[],_=>by simp
 |x::xs,h=>by
  obtain ⟨h1,E⟩:=Gp.1 h
  rw [Gw]
  by_cases hx:x=z
  ·rw [By (by simpa using hx),Jc.2 λy hy=>?_]
   ·simp
   intro hd
   have M:y=z:=Gc hd
   have:=h1 y hy
   rw [hx,M] at this
   exact Pt.lin.irr _ this
  rw [An (by simpa using hx)];exact fu0 xs E
theorem cy9(P R:Lk->Bool):∀K:List Lk,(∀y∈K,P y=true\/R y=true)->K.length<=(K.filter P).length+(K.filter R).length
 |[],_=>by simp
 |x::xs,h=>by
  have ih:=cy9 P R xs λy M=>h y (Fv _ M)
  have E:=h x C_
  simp only [Gw,Fu]
  cases hP:P x<;>cases hR:R x<;>simp_all<;>omega
theorem fm4{P:Lk->Bool}{K:List Lk}(h:K.Sublist xs):(K.filter P).length<=(xs.filter P).length:=(h.filter P).length_le
theorem fj5{nw:Int}(ha:xs.Pairwise Lk.lt)(hm:0<=mo):((xs.filter (inW 3 wd mo nw xs)).length:Int)<=mo:=by
 generalize hK:xs.filter (inW 3 wd mo nw xs)=K
 have M:K.Sublist xs:=by rw [←hK];exact Jo
 have E:=ha.sublist M
 by_cases h0:K=[]
 ·rw [h0];simpa using hm
 obtain ⟨z,hz,hl⟩:=du2 K h0 E
 have h1:=cy9 (λy=>decide<|Lk.late y z) (λy=>decide<|y=z) K λy hy=>by
  rcases hl y hy with h|h
  ·exact .inr<|D_ h
  exact .inl<|D_ h
 have h2:=fu0 (z:=z) K E
 have h3:=fm4 (P:=λy=>decide<|Lk.late y z) M
 have h4:inW 3 wd mo nw xs z=true:=by rw [←hK] at hz;exact (G_.1 hz).2
 unfold inW at h4
 rw [An dc,By rfl] at h4
 have h5:=Gc h4
 unfold ap4 at h5
 omega
structure ge9 (nd mo:Int) (es:List Ev) (k:Nat) (s:List Lk×List Ev):Prop where
 inv:SlI nd 3 0 (G3 es k) s.1
 st:s.1=s.2.foldl eo []
 fit:∀e∈s.2,H6 nd e
 len:(s.1.length:Int)<=mo
 sum:s.1.length+s.2.length<=2*k
theorem dw2(s:List Lk×List Ev)(e:Ev):ab9 3 wd mo s e=((eo s.1 e).filter (inW 3 wd mo e.tm (eo s.1 e)),s.2++[e]++F6 3 wd mo e.tm (eo s.1 e)):=rfl
theorem ge9.all(h:da8 nd es)(hm:0<=mo):∀k,k<=es.length->ge9 nd mo es k (q9 3 0 mo (es.take k))
 |0,_=>⟨SlI.nil h.nodes,rfl,λe he=>(by cases he),hm,Gk _⟩
 |k+1,hk=>by
  have E:=ge9.all h hm k om
  have M:=h.fit k om
  have aa:=h.asc k om
  rw [H9 om,dw2]
  generalize q9 3 0 mo (es.take k)=s at E ⊢
  generalize hee:e_ es k=e at M aa ⊢
  have hlt:G3 es (k+1)=e.tm:=by rw [G0,hee]
  have hI:=(E.inv.later aa<|λh=>absurd h dc).step M rfl (λh=>absurd h dc)
  have ad:=H5 3 0 mo e.tm (eo s.1 e)
  have ae:=y6 s.1 e
  have ab:=E.sum
  refine ⟨by rw [hlt];exact hI.filter _,?_,λx hx=>?_,fj5 (K9 hI.val).2.2 hm,?_⟩
  ·simp only;rw [Hw,Hw,←E.st,←U5 hI.val];rfl
  ·rcases Gu.1 hx with hx|hx
   ·rcases Gu.1 hx with hx|hx
    ·exact E.fit x hx
    rw [Gj.1 hx];exact M
   exact bw0 hI.val M.tm x hx
  simp only [A_,Fu,F_];omega
theorem dp3(H:∀k:Nat,k<es.length->ab9 kd wd mo ((es.take k).foldl eo [],es.take k) (e_ es k)=(eo ((es.take k).foldl eo []) (e_ es k),es.take k++[e_ es k])) :
  ∀k,k<=es.length->q9 kd wd mo (es.take k)=((es.take k).foldl eo [],es.take k)
 |0,_=>rfl
 |k+1,hk=>by
  have M:k<es.length:=by omega
  rw [H9 M,dp3 H k om,H k M,Q8 M,Cn es k M]
theorem dd1(H:∀k:Nat,k<es.length->ab9 kd wd mo ((es.take k).foldl eo [],es.take k) (e_ es k)=(eo ((es.take k).foldl eo []) (e_ es k),es.take k++[e_ es k])):(q9 kd wd mo es).2=es:=by
 have:=dp3 H es.length (Gk _)
 rw [Hx] at this
 rw [this]
theorem bc7(wd mo:Int)(es:List Ev):(q9 1 wd mo es).2=es:=dd1 λk M=>rfl
theorem gm7(E:r7 kd wd mo=0)(hv:j8 nd xs=0)(ht:0<=t/\t<=1048576)(hl:∀x∈xs,x.tm<=t):aq8 nd xs kd wd mo t=0:=by
 unfold aq8
 rw [An (by simp [E]),An<|by simp [hv],An]
 rintro (h1|h1|h1)
 ·omega
 ·omega
 obtain ⟨x,hx,M⟩:=Lo.1 h1
 have:=hl x hx
 have:=Gc M
 omega
theorem ct9:∀(es:List Ev) (xs:List Lk),(∀x∈xs,x.tm<=T)->(∀e∈es,e.tm<=T)->∀x∈es.foldl eo xs,x.tm<=T
 |[],xs,hx,_=>hx
 |e::es,xs,hx,he=>ct9 es (eo xs e) (λx h=>by
   unfold eo at h
   split at h
   ·rcases ba9 h with rfl|h
    ·exact he e C_
    exact hx x h
   exact hx x (G_.1 h).1) λy M=>he y (Fv _ M)
theorem da8.up(h:da8 nd es):∀k,k<=es.length->∀j,j<k->(e_ es j).tm<=G3 es k
 |0,_,j,hj=>absurd hj (Kd _)
 |k+1,hk,j,hj=>by
  rw [G0]
  rcases Nq.1 hj with hj|rfl
  ·exact Lj (h.up k om j hj)<|h.asc k om
  exact Hn _
end Go.Sl
/- The graphs of a history, time by time: the plain functions. No Go. No conditions. -/
namespace Go.Sl
variable{es:List Ev}{k:Nat}{kd wd:Int}
def cutAt(wd:Int)(l:Lk):Ev:=⟨2,l.tm+wd,l.u,l.v,0,0,0⟩
def cd7(kd wd:Int)(l:Lk):Bool:=decide (kd=2/\l.tm+wd<=1048576)
def L8(kd wd:Int)(xs:List Lk):List Ev:=(xs.filter (cd7 kd wd)).map (cutAt wd)
def evC(a b:Ev):Int:=if a.tm<b.tm then -1 else if b.tm<a.tm then 1 else 0
def eh(es:List Ev):List Lk:=es.foldl eo []
def V8(kd wd mo:Int)(es:List Ev):List Ev:=(q9 kd wd mo es).2++G1 evC (L8 kd wd (eh (q9 kd wd mo es).2))
def F4(xs:List Lk):List Pt:=xs.map λl=>⟨l.u,l.v⟩
def atK(kd wd mo:Int)(es:List Ev)(T:Int):List Lk:=eh ((V8 kd wd mo es).takeWhile λe=>decide (e.tm<=T))
def ay0(kd wd mo:Int)(es:List Ev):List Int:=0::((q9 kd wd mo es).2.map Ev.tm++(L8 kd wd (eh (q9 kd wd mo es).2)).map Ev.tm)
theorem ab0(h:k<es.length):eh (es.take (k+1))=eo (eh (es.take k)) (e_ es k):=by
 unfold eh;rw [Cn es k h,Hw];rfl
theorem bp3{xs:List Lk}(h:k<xs.length):L8 kd wd (xs.take (k+1))=L8 kd wd (xs.take k)++if cd7 kd wd (e_ xs k)=true then [cutAt wd (e_ xs k)] else []:=by
 unfold L8
 rw [Cn xs k h,Hc,Jb]
 congr 1
 by_cases hp:cd7 kd wd (e_ xs k)=true
 ·rw [By hp];simp [Gw,hp]
 rw [An hp];simp [Gw,hp]
theorem ad5(kd wd:Int)(xs:List Lk):(L8 kd wd xs).length<=xs.length:=by
 unfold L8;rw [Gi];exact Gz _ _
theorem dw3{a b:Ev}:evC a b<0↔a.tm<b.tm:=by unfold evC;repeat (first|omega|split)
structure go6 (E:List Ev) (fst:Bool) (j:Nat) (t:Int) (own:Bool) (j':Nat):Prop where
 le:j<=j'/\j'<=E.length
 same:∀i:Nat,j<=i->i<j'->(e_ E i).tm=t
 stop:j'<E.length->(e_ E j').tm≠t
 own:own=decide (j<j')
 first:fst=true->t=0/\j=0
 next:fst=false->j<E.length/\t=(e_ E j).tm
theorem ao7{α:Type}[Inhabited α]{p:α->Bool}:∀{E:List α} {j:Nat},j<=E.length->(∀i:Nat,i<j->p (e_ E i)=true)->(j<E.length->p (e_ E j)=false)->E.takeWhile p=E.take j
 |[],j,_,_,_=>by simp
 |x::E,0,_,_,h=>by
  have h1:=h (by simp)
  rw [show e_ (x::E) ((0:Nat):Int)=x from rfl] at h1
  simp [List.takeWhile_cons,h1]
 |x::E,j+1,hj,ha,h=>by
  have M:=ha 0 om
  rw [show e_ (x::E) ((0:Nat):Int)=x from rfl] at M
  have e:∀i:Nat,e_ (x::E) ((i+1:Nat):Int)=e_ E i:=λi=>by rw [au2,au2];rfl
  have ih:=ao7 (p:=p) (E:=E) (j:=j) (by simpa using hj) (λi hi=>by rw [←e];exact ha (i+1) om) (λhl=>by rw [←e];exact h<|by simpa using hl)
  simp [List.takeWhile_cons,M,ih]
theorem da4{mo T:Int}{j:Nat}(hj:j<=(V8 kd wd mo es).length)(M:∀i:Nat,i<j->(e_ (V8 kd wd mo es) i).tm<=T)(h:j<(V8 kd wd mo es).length->T<(e_ (V8 kd wd mo es) j).tm):atK kd wd mo es T=eh ((V8 kd wd mo es).take j):=by
 unfold atK
 rw [ao7 hj (λi hi=>D_<|M i hi) λE=>E_<|by have:=h E;omega]
end Go.Sl
namespace Go.Sl
open Go.Proofs
set_option maxRecDepth 4000
variable{kd mo nd wd:Int}{xs:List Lk}
attribute [local irreducible] W G V D A j0 Eff
theorem fa7.none(h:¬ac6 nd xs kd wd mo):fa7 nd xs kd wd mo 0:=⟨λM=>absurd M h,λ_=>rfl⟩
theorem br2(h:j8 nd xs=0):∀x∈xs,0<=x.tm/\x.tm<=1048576:=λx M=>cp9 ((K9 h).2.1 x M)
theorem bd2(E:¬r7 kd wd mo≠0)(M:¬j8 nd xs≠0):fe8 nd xs kd wd mo=0:=by unfold fe8;rw [An E];exact B_.1 M
theorem fr7{κ:Ctx}{I:List Item}{va:Value}(hl:Sl κ I va xs)(hb:∀x∈xs,0<=x.tm/\x.tm<=1048576)(hw:0<=wd/\wd<=1048576):er Tryz.prog κ 252 [.agg #[e7 nd,va],e7 wd] I (λr J=>∃z:Int,r = .tuple #[e7 z,.bool (decide (0<xs.length))]/\((0<xs.length->(∃x∈xs,z=x.tm+wd)/\∀y∈xs,z<=y.tm+wd)/\(xs.length=0->z=0))/\I=J):=by
 refine Bm hl.le λaa=>?_
 refine Ce2 Tryz.func252 C C ?_
 refine Aj<|Ge1 (Ay (cs:=[_,_]) C C C) λb1=>Z ?_
 refine Am C (λc10=>Z ?_)<|λc10=>Z ?_
 ·exact B5 C C C I Af ⟨0,by rw [E_ om],⟨λh=>by omega,λ_=>rfl⟩,rfl⟩
 refine G.e (Ac c_ C C<|gd1 (Bc hl) om cr7) ?_
 rintro _ _ ⟨_,_,⟨E,rfl,M,rfl⟩,rfl,rfl⟩
 have ab:=hb _ M.1
 refine Ge1 (Ah p7 C) λb3=>Ge0 (Dp p7)<|Z ?_
 exact B5 C C C I Af ⟨_,by rw [D_ om],⟨λ_=>⟨⟨E,M.1,rfl⟩,λy hy=>by have:=M.2 y hy;omega⟩,λh=>by omega⟩,rfl⟩
end Go.Sl
/- What holds of the events of a history, with the cuts of what expires later. The plain laws. No Go. No conditions. -/
namespace Go.Sl
variable{X:List Lk}
theorem fo7(wd mo T:Int)(xs:List Lk)(out:List Ev):(Y0 wd mo T xs out).1.length<=xs.length:=by
 have h:=bc9 (wd:=wd) (mo:=mo) (T:=T) (P:=λys _=>ys.length<=xs.length) (λys o hs M=>Jt (Gz _ _) M) xs.length xs out (Gk _) (Gk _)
 exact h.1
theorem ao8{kd wd mo:Int}{es:List Ev}:∀k,k<=es.length->(q9 kd wd mo (es.take k)).1.length<=k
 |0,_=>Gk _
 |k+1,hk=>by
  have M:=ao8 (kd:=kd) (wd:=wd) (mo:=mo) (es:=es) k om
  rw [H9 om]
  generalize q9 kd wd mo (es.take k)=s at M ⊢
  have h1:(Z9 kd wd mo (e_ es k).tm s).1.length<=s.1.length:=by
   unfold Z9
   split
   ·exact fo7 _ _ _ _ _
   exact Gk _
  have E:=y6 (Z9 kd wd mo (e_ es k).tm s).1 (e_ es k)
  unfold ab9 dn4
  split
  ·have h3:=Gz (inW kd wd mo (e_ es k).tm (eo (Z9 kd wd mo (e_ es k).tm s).1 (e_ es k))) (eo (Z9 kd wd mo (e_ es k).tm s).1 (e_ es k))
   simp only
   omega
  simp only
  omega
structure G6 (nd kd wd mo:Int) (es:List Ev):Prop where
 st:da8 nd es
 win:r7 kd wd mo=0
theorem R0{kd wd mo:Int}(h:r7 kd wd mo=0):(kd=1/\wd=0/\mo=0)\/(kd=2/\(1<=wd/\wd<=1048576)/\mo=0)\/(kd=3/\wd=0/\0<=mo/\mo<=2016):=by
 unfold r7 at h
 split at h
 ·cases h
 split at h
 ·cases h
 omega
section
variable {nd kd wd mo:Int}{es:List Ev}
theorem G6.fit(h:G6 nd kd wd mo es):∀e∈(q9 kd wd mo es).2,H6 nd e:=by
 have M:es.take es.length=es:=Hx
 rcases R0 h.win with ⟨rfl,rfl,rfl⟩|⟨rfl,hw,rfl⟩|⟨rfl,rfl,E⟩
 ·rw [bc7];exact h.st.mem
 ·have:=(fv6.all (mo:=0) h.st hw.1 es.length<|Gk _).fit
  rwa [M] at this
 have:=(ge9.all h.st E.1 es.length<|Gk _).fit
 rwa [M] at this
theorem G6.du1(h:G6 nd kd wd mo es):(q9 kd wd mo es).1=eh (q9 kd wd mo es).2:=by
 have M:es.take es.length=es:=Hx
 rcases R0 h.win with ⟨rfl,rfl,rfl⟩|⟨rfl,hw,rfl⟩|⟨rfl,rfl,E⟩
 ·rw [bc7]
  have:∀k,k<=es.length->(q9 1 0 0<|es.take k).1=eh (es.take k):=λk=>by
   induction k with
   |zero=>intro _;rfl
   |succ k ih=>
    intro hk
    rw [H9 om,ab0 om,←ih om];rfl
  have:=this es.length (Gk _)
  rwa [M] at this
 ·have:=(fv6.all (mo:=0) h.st hw.1 es.length<|Gk _).st
  rwa [M] at this
 have:=(ge9.all h.st E.1 es.length<|Gk _).st
 rwa [M] at this
theorem G6.len(h:G6 nd kd wd mo es):(eh (q9 kd wd mo es).2).length<=es.length:=by
 have M:es.take es.length=es:=Hx
 rw [←h.du1]
 have:=ao8 (kd:=kd) (wd:=wd) (mo:=mo) es.length (Gk _)
 rwa [M] at this
theorem G6.ge4(h:G6 nd kd wd mo es):(q9 kd wd mo es).2.length<=2*es.length:=by
 have M:es.take es.length=es:=Hx
 rcases R0 h.win with ⟨rfl,rfl,rfl⟩|⟨rfl,hw,rfl⟩|⟨rfl,rfl,E⟩
 ·rw [bc7];omega
 ·have:=(fv6.all (mo:=0) h.st hw.1 es.length<|Gk _).sum
  rw [M] at this;omega
 have:=(ge9.all h.st E.1 es.length<|Gk _).sum
 rw [M] at this;omega
theorem M3(M:0<=nd/\nd<=64){E:List Ev}(hf:∀e∈E,H6 nd e)(k:Nat):j8 nd (eh (E.take k))=0:=ai3 M _ _ (ca3 M) λe he=>hf e (Lh he)
theorem dx2{l:Lk}(M:j8 nd X=0)(E:l∈X)(hw:0<=wd)(hp:cd7 kd wd l=true):H6 nd (cutAt wd l):=by
 have h1:=Gc hp
 have h2:=bn4 M l E
 have h3:=br2 M l E
 have h4:=(U7.1 M).1
 refine ⟨by show 1<=(2:Int)/\(2:Int)<=3;decide,?_,⟨?_,λh=>absurd h<|by show ¬(2:Int)=3;decide,λ_=>?_⟩,λh=>absurd h<|by show ¬(2:Int)=1;decide,?_,λ_=>⟨rfl,rfl,rfl⟩⟩
 ·show 0<=l.tm+wd/\l.tm+wd<=1048576;omega
 ·show 0<=l.u/\l.u<64;omega
 ·show (0<=l.v/\l.v<64)/\l.u≠l.v;omega
 show l.u<nd/\l.v<nd;omega
theorem fj4(hv:j8 nd X=0)(hw:0<=wd):∀e∈G1 evC (L8 kd wd X),H6 nd e:=λe E=>by
 rw [(E6 _ _).mem_iff] at E
 obtain ⟨l,hl,rfl⟩:=Ha.1 E
 have M:=G_.1 hl
 exact dx2 hv M.1 hw M.2
theorem G6.allFit(h:G6 nd kd wd mo es):∀e∈V8 kd wd mo es,H6 nd e:=λe he=>by
 rcases Gu.1 he with he|he
 ·exact h.fit e he
 have M:j8 nd (eh (q9 kd wd mo es).2)=0:=by
  have:=M3 h.st.nodes h.fit (q9 kd wd mo es).2.length
  rwa [Hx] at this
 exact fj4 M (ad9 h.win).1 e he
theorem cf3(h:j8 nd X=0):G8 nd (F4 X):=by
 have E:=U7.1 h
 refine ⟨E.1,?_,λe he=>?_⟩
 ·show (F4 X).Pairwise Pt.lt
  unfold F4
  exact Nm _ (λa b M=>M) E.2.2
 obtain ⟨l,hl,rfl⟩:=Ha.1 he
 exact bn4 h l hl
theorem aw9(X:List Lk):(F4 X).length=X.length:=Gi ..
def atG(kd wd mo:Int)(es:List Ev)(T:Int):List Pt:=F4 (atK kd wd mo es T)
theorem fo3(kd wd mo T:Int)(es:List Ev):∃j,atK kd wd mo es T=eh ((V8 kd wd mo es).take j):=by
 unfold atK
 have M:(V8 kd wd mo es).takeWhile (λe=>decide<|e.tm<=T) <+: V8 kd wd mo es:=List.takeWhile_prefix _
 exact ⟨_,by rw [List.prefix_iff_eq_take.1 M]⟩
theorem G6.graph(h:G6 nd kd wd mo es)(T:Int):G8 nd (atG kd wd mo es T):=by
 obtain ⟨j,hj⟩:=fo3 kd wd mo T es
 unfold atG
 rw [hj]
 exact cf3<|M3 h.st.nodes h.allFit j
end
end Go.Sl
