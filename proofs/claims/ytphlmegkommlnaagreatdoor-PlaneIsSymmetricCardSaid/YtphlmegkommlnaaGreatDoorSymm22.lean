/- Part 22 of the proof that PlaneIsSymmetric answers true at every input -/
import Derived.Test.YtphlmegkommlnaaGreatDoorSymm02
import Derived.Test.YtphlmegkommlnaaGreatDoorSymm17
import Derived.Test.YtphlmegkommlnaaGreatDoorSymm21
set_option linter.unusedVariables false
set_option linter.unusedSimpArgs false
set_option linter.unnecessarySimpa false
set_option linter.defProp false
set_option maxRecDepth 20000
namespace Go.Proofs.YtphlmegkommlnaaGreatDoor
noncomputable section
namespace Sy
open Go Go.Proofs Geo
def L9(p:List Nat)(a b i:Nat):Bool:=(decide (p.getD i 0=a)&&decide (p.getD ((i+1)%p.length) 0=b))||(decide (p.getD i 0=b)&&decide (p.getD ((i+1)%p.length) 0=a))
def GT(p:List Nat)(a b t:Nat):Bool:=(List.range t).any (L9 p a b)
def mu(F:FL)(a b:Nat):Bool:=F.any λf=>GT f.2 a b f.2.length
def km(F:FL)(a b:Nat):List (Nat×Nat):=((List.range b).filter λc=>decide (a<c)&&mu F a c).map λc=>(a,c)
def kE(F:FL)(N a:Nat):List (Nat×Nat):=(List.range a).flatMap λa=>km F a N
def Fs(p:List Nat)(a b t:Nat):GT p a b (t+1)=(GT p a b t||L9 p a b t):=by
 unfold GT;rw[z1b,zBc];simp
def DF(F:FL){a b:Nat}(h:a<b):km F a (b+1)=if mu F a b then km F a b++[(a,b)] else km F a b:=by
 unfold km;rw[z1b,List.filter_append];by_cases k:mu F a b=true<;>simp[h,k]
def Gf(F:FL)(a:Nat):km F a (a+1)=[]:=by
 unfold km;rw[List.map_eq_nil_iff,List.filter_eq_nil_iff];intro c hc;have:=zNa.1 hc;simp;omega
def zv(F:FL)(a b:Nat):(km F a b).length<=b:=by
 unfold km;rw[zua];exact zDa (zjc _ _) (by simp)
def uy(F:FL)(N a:Nat):kE F N (a+1)=kE F N a++km F a N:=by
 unfold kE;rw[z1b,List.flatMap_append];simp
def xM(F:FL)(N a:Nat):(kE F N a).length<=a*N:=by
 induction a with
 | zero=>simp[kE]
 | succ a ih=>rw[uy,zta,Nat.succ_mul];have:=zv F a N;omega
def yS{F:FL}{N:Nat}{e:Nat×Nat}:e∈kE F N N↔e.1<N/\e.2<N/\e.1<e.2/\mu F e.1 e.2=true:=by
 obtain⟨a,b⟩:=e;simp only[kE,km,zab,zNa,z7a,zpc,zaa,decide_eq_true_eq,Prod.mk.injEq];constructor
 ·rintro⟨c,hc,d,⟨hd,h1,h2⟩,rfl,rfl⟩;exact⟨hc,hd,h1,h2⟩
 ·rintro⟨h1,h2,h3,h4⟩;exact⟨a,h1,b,⟨h2,h3,h4⟩,rfl,rfl⟩
def Ez(F:FL)(N:Nat):(kE F N N).Pairwise zi:=by
 unfold kE;rw[List.pairwise_flatMap];refine⟨λa _=>?_,?_⟩
 ·unfold km;refine List.pairwise_map.2 ((List.Pairwise.filter _ List.pairwise_lt_range).imp λh=>.inr ⟨rfl,h⟩)
 ·refine List.pairwise_lt_range.imp λ{a b} h x hx y hy=>?_;simp only[km,z7a] at hx hy;obtain⟨c,_,rfl⟩:=hx;obtain⟨d,_,rfl⟩:=hy;exact .inl h
def S6{M:List (Nat×Nat)}(e:Nat×Nat):D.sl (M.map cR++[cR e])=.sl ((M++[e]).map cR):=by simp
def ox(M:List (Nat×Nat)):(M.map cR).length=M.length:=zua ..
def XY(n:Nat){l:List V}(hlen:l.length<=100){F:FL}(hF:F.length<=3000000)(hp:∀ f∈F,0<f.2.length/\f.2.length<=1000000)(h19:cA (n+1) 19 [cm l]=some (.sl (aK F))):cA (n+2) 22 [cm l]=some (.sl ((kE F l.length l.length).map cR)):=by
 rw[Yj]
 delta Ov qB qT qS qX qL qM qV qW qZ iL iR Jn
 refine aa h19 ?_;refine bk (λa s=>s=[.sl ((kE F l.length a).map cR),I (a:Int)]) l.length 0 (zma _) rfl (λa ha s hJ=>?_) (λs hJ=>?_)
 ·subst hJ;left;refine⟨[.sl ((kE F l.length (a+1)).map cR),I ((a+1:Nat):Int)],?_,rfl⟩;have hal:(kE F l.length a).length<=10000:=zDa (xM F l.length a) (z2a (show a<=100 by omega) hlen)
  refine aa (z:=a7 l) rfl (aa (z:=l.map ac) rfl (aa ah (aa ab (az (by show((a:Int)<((l.map ac).length:Int));rw[aL];omega) (aa (aq (au (i:=a) (by omega))) ?_)))))
  rw[uy];obtain⟨M,hM⟩:∃ M,kE F l.length a=M:=⟨_,rfl⟩;rw[hM] at hal ⊢;refine bZ (λb s=>a+1<=b/\s=[.sl ((M++km F a b).map cR),I (b:Int)]) l.length (a+1) (by omega) ⟨zha _,by rw[Gf,zLb];rfl⟩ (λb hb s hJ=>?_) (λs hJ=>?_)
  ·obtain⟨hab,rfl⟩:=hJ;left;refine⟨[.sl ((M++km F a (b+1)).map cR),I ((b+1:Nat):Int)],?_,by omega,rfl⟩
   have hrl:=zv F a b;rw[DF F (show a<b by omega)]
   obtain⟨R,hR⟩:∃ R,M++km F a b=R:=⟨_,rfl⟩;have hRl:R.length<=10100:=by rw[<-hR,zta];omega
   have eR:(M++if mu F a b=true then km F a b++[(a,b)] else km F a b)=if mu F a b=true then R++[(a,b)] else R:=by
    split
    ·rw[<-hR,zEa]
    ·exact hR
   rw[eR,hR];refine aa (z:=a7 l) rfl (aa (z:=l.map ac) rfl (aa ah (aa ab (az (by show((b:Int)<((l.map ac).length:Int));rw[aL];omega) ?_))))
   refine aa (z:=(0,[.sl ((if mu F a b=true then R++[(a,b)] else R).map cR)])) ?_ (aa (aq (au (i:=b) (by omega))) rfl)
   refine bZ (λk s=>s=[.sl (R.map cR),.bool (mu (F.take k) a b),I (k:Int)]) F.length 0 (zma _) rfl (λk hk s hJ=>?_) (λs hJ=>?_)
   ·subst hJ;left;refine⟨[.sl (R.map cR),.bool (mu (F.take (k+1)) a b),I ((k+1:Nat):Int)],?_,rfl⟩;obtain⟨hp0,hpk⟩:=hp F[k] (zIa hk);have e1:mu (F.take (k+1)) a b=(mu (F.take k) a b||GT F[k].2 a b F[k].2.length):=by
     unfold mu;rw[zxa hk,zBc];simp
    refine aa (z:=aK F) rfl (aa ah (aa ab (az (by show((k:Int)<((aK F).length:Int));rw[bh];omega) ?_)))
    refine aa (z:=aK F) rfl (aa (z:=k) (by rw[bh];exact ap hk) (aa (fL hk) (aa (z:=.sl (ae F[k].2)) rfl ?_)))
    rw[e1];generalize mu (F.take k) a b=b0;obtain⟨p,hpp⟩:∃ p,F[k].2=p:=⟨_,rfl⟩;rw[hpp] at hp0 hpk ⊢;refine bZ (λi s=>s=[.sl (R.map cR),.bool (b0||GT p a b i),I (i:Int)]) p.length 0 (zma _) (by rw[show GT p a b 0=false from rfl,Bool.or_false];rfl) (λi hi s hJ=>?_) (λs hJ=>?_)
    ·subst hJ;left;refine⟨[.sl (R.map cR),.bool (b0||GT p a b (i+1)),I ((i+1:Nat):Int)],?_,rfl⟩;have hmod:(i+1)%p.length<p.length:=zPa _ hp0;have hrem:(((i:Int)+1).tmod (p.length:Int))=(((i+1)%p.length:Nat):Int):=by
      rw[show((i:Int)+1)=((i+1:Nat):Int) by omega];exact zVc ..
     have nb:∀ (x y:Nat) {X:Option Bool},X=(Option.bind (D.asSl (.sl (ae p))) λl26=>
       Option.bind (D.idx (I (i:Int)) (List.length l26)) λi27=>
       Option.bind (l26[i27]?) λx28=>
       Option.bind (D.truth (D.bool (D.beq x28 (I (x:Int))))) λb29=>
       if b29 then(Option.bind (D.bin .add (I (i:Int)) (D.int .i64 1)) λx30=>
       Option.bind (D.asSl (.sl (ae p))) λl31=>
       Option.bind (D.bin .rem x30 (D.int .i64 (List.length l31))) λx32=>
       Option.bind (D.asSl (.sl (ae p))) λl33=>
       Option.bind (D.idx x32 (List.length l33)) λi34=>
       Option.bind (l33[i34]?) λx35=>
       D.truth (D.bool (D.beq x35 (I (y:Int))))) else(some false))->X=some (decide (p.getD i 0=x)&&decide (p.getD ((i+1)%p.length) 0=y)):=λx y X hX=>by
      rw[hX];refine aa (z:=ae p) rfl (aa (z:=i) (by rw[ai];exact ap hi) (aa (fM hi) ?_))
      rw[cd];refine aa ab ?_;by_cases h:p.getD i 0=x
      ·refine az h (aa (aq (au (i:=i) (by omega))) (aa (z:=ae p) rfl (aa (z:=I (((i+1)%p.length:Nat):Int)) (by rw[show((ae p).length:Int)=(p.length:Int) by rw[ai],nL (by omega),hrem]) (aa (z:=ae p) rfl (aa (z:=(i+1)%p.length) (by rw[ai];exact ap hmod) (aa (fM hmod) ?_))))))
       rw[cd,ab,decide_eq_true h,zOb]
      ·refine aG h ?_;rw[decide_eq_false h,zed]
     refine aa (z:=ae p) rfl (aa ah (aa ab (az (by show((i:Int)<((ae p).length:Int));rw[ai];omega) (aa ab ?_))))
     rw[Fs];generalize GT p a b i=b1;refine aa (z:=(b0||b1)||(decide (p.getD i 0=a)&&decide (p.getD ((i+1)%p.length) 0=b))) ?_ (aa ab (aa (z:=b0||(b1||L9 p a b i)) ?_ (aa (aq (au (i:=i) (by omega))) rfl)))
     ·cases hb:(b0||b1)
      ·rw[show(if false=true then some true else _)=_ from if_neg (by decide),znd]
       exact nb a b rfl
      ·rfl
     ·rw[<-Bool.or_assoc];unfold L9;rw[<-Bool.or_assoc];cases hb:(b0||b1||(decide (p.getD i 0=a)&&decide (p.getD ((i+1)%p.length) 0=b)))
      ·rw[show(if false=true then some true else _)=_ from if_neg (by decide),znd]
       exact nb b a rfl
      ·rfl
    ·subst hJ;refine⟨(0,[.sl (R.map cR),.bool (b0||GT p a b p.length)]),aa (z:=ae p) rfl (aa ah (aa ab (aG (by show ¬ ((p.length:Int)<((ae p).length:Int));rw[ai];omega) rfl))),?_⟩
     exact aa (aq (au (i:=k) (by omega))) rfl
   ·subst hJ;rw[z3a];refine⟨(0,[.sl (R.map cR),.bool (mu F a b)]),?_,?_⟩
    ·exact aa (z:=aK F) rfl (aa ah (aa ab (aG (by show ¬ ((F.length:Int)<((aK F).length:Int));rw[bh];omega) rfl)))
    ·refine aa (z:=mu F a b) ab ?_;cases mu F a b
     ·rfl
     ·rw[if_pos rfl,if_pos rfl,if_pos (by show(R.map cR).length+1<=1073741824;rw[ox];omega),<-S6]
      rfl
  ·obtain⟨hab,rfl⟩:=hJ;refine⟨(0,[.sl ((M++km F a l.length).map cR)]),?_,aa (aq (au (i:=a) (by omega))) rfl⟩
   exact aa (z:=a7 l) rfl (aa (z:=l.map ac) rfl (aa ah (aa ab (aG (by show ¬ ((l.length:Int)<((l.map ac).length:Int));rw[aL];omega) rfl))))
 ·subst hJ;refine⟨(0,[.sl ((kE F l.length l.length).map cR)]),?_,rfl⟩;exact aa (z:=a7 l) rfl (aa (z:=l.map ac) rfl (aa ah (aa ab (aG (by show ¬ ((l.length:Int)<((l.map ac).length:Int));rw[aL];omega) rfl))))
def MS(n:Nat){l:List V}(hl:∀ x∈l,bd MV x)(hlen:l.length<=100)(hs:Ev l):∃ (F:FL) (E:List (Nat×Nat)),F.length<=2000000/\E.length<=10000/\KnF l l.length 0 0 F ∧
  cA (n+8) 18 [cm l]=some (.sl (aK F))/\cA (n+8) 19 [cm l]=some (.sl (aK F))/\cA (n+9) 21 [cm l]=some (.sl (E.map cR))/\cA (n+9) 22 [cm l]=some (.sl (E.map cR))/\E=kE F l.length l.length:=by
 obtain⟨F,hK,h48⟩:=VR n hl hlen hs;obtain⟨L,poly,hL,hP,hLl,h18⟩:=Ya (n+1) hl hlen hs;have hFk:=hK.fok;have hFl:=hFk.len hlen;have eL:F.map Prod.fst=L:=Facets.eq hK.facets hL;have eq1:∀ f∈F,poly f.1=f.2:=λf hf=>by
  obtain⟨q1,q2⟩:=hFk.ok f hf;exact bz.eq hs q1 (hP f.1 (by rw[<-eL];exact z7a.2 ⟨f,hf,rfl⟩)) q2
 have eF:(L.map λq=>mo q (poly q))=aK F:=by
  rw[<-eL,List.map_map];refine zec λf hf=>?_;simp only[Function.comp_apply,eq1 f hf]
 have hpl:∀ f∈F,0<f.2.length/\f.2.length<=1000000:=λf hf=>by
  obtain⟨q1,q2⟩:=hFk.ok f hf;have:=tg hs q1 q2;omega
 have h19:cA (n+8) 19 [cm l]=some (.sl (aK F)):=by
  rw[Yh]
  delta Ou qG
  exact aa (z:=a7 l) rfl (aa h48 rfl)
 have h22:=XY (n+7) hlen (show F.length<=3000000 by omega) hpl h19
 obtain⟨E,e1,e2,h21⟩:=Yb (n+1) h18 hLl (λq hq=>by
  have hq':=hq;rw[<-eL] at hq';obtain⟨f,hf,rfl⟩:=z7a.1 hq';rw[eq1 f hf];obtain⟨q1,q2⟩:=hFk.ok f hf;have:=tg hs q1 q2;exact⟨by omega,this.2.2.1⟩) (uw hs hL hP)
 have eE:E=kE F l.length l.length:=by
  refine mb (r:=zi) (λa=>by simp only[zi];omega) (λa b=>by simp only[zi];omega) e2 (Ez F l.length) λe=>?_
  obtain⟨a,b⟩:=e;rw[e1.mem_iff,zN hs hL hP,yS];constructor
  ·rintro⟨h1,m,d,h2,h3⟩;have hb:=(aR.1 h3.2.mem).1;have ha:=(aR.1 h3.1).1;refine⟨ha,hb,h1,?_⟩;have hq:(m,d)∈F.map Prod.fst:=by rw[eL];exact(hL.mem (m,d)).2 h2
   obtain⟨f,hf,hfe⟩:=z7a.1 hq;obtain⟨q1,q2⟩:=hFk.ok f hf;rw[hfe] at q1 q2;obtain⟨i,i1,i2,i3⟩:=(bz.dir hs q1 q2).2 h3;refine z7b.2 ⟨f,hf,z7b.2 ⟨i,zNa.2 i1,?_⟩⟩;unfold L9;rw[decide_eq_true i2,decide_eq_true i3];rfl
  ·rintro⟨ha,hb,h1,h2⟩;refine⟨h1,(Al hs).1 ?_⟩;obtain⟨f,hf,h3⟩:=z7b.1 h2;obtain⟨i,i1,i2⟩:=z7b.1 h3;obtain⟨q1,q2⟩:=hFk.ok f hf;have i1:=zNa.1 i1;simp only[L9,zCb,zaa,decide_eq_true_eq] at i2;refine⟨f.1.1,f.1.2,q1,?_⟩;rcases i2 with⟨j1,j2⟩|⟨j1,j2⟩
   ·exact .inl ((bz.dir hs q1 q2).1 ⟨i,i1,j1,j2⟩)
   ·exact .inr ((bz.dir hs q1 q2).1 ⟨i,i1,j1,j2⟩)
 have hEl:E.length<=10000:=by
  rw[eE];exact zDa (xM _ _ _) (z2a hlen hlen)
 rw[<-eE] at h22;rw[eF] at h18;exact⟨F,E,hFl,hEl,hK,h18,h19,h21,h22,eE⟩
end Sy
end
noncomputable section
namespace Sy
open Go Go.Proofs Geo
def mO{k:Nat}{v:V}(h:bd (k:Int) v):v.x.natAbs<=k/\v.y.natAbs<=k/\v.z.natAbs<=k:=by
 unfold bd at h;omega
structure BOk(b:Bdy):Prop where
 one:1<=b.P.length
 few:b.P.length<=3
 vs:∀ l∈b.P,l.length<=10
 hul:∀ l∈b.P,Hul l
 bd:∀ l∈b.P,∀ x∈l,bd 4096 x
 m0:1<=b.m0
 m1:b.m0<=b.m1
 m2:b.m1<=1099511627776
end Sy
end
noncomputable section
namespace Sy
open Go Go.Proofs Geo
def Kk{body:Bd}{k:Nat×List D->Option D}{y:D}{l0:List D}(x:Nat->D)(h0:l0.length=3)
  (hs:∀ i:Nat,i<3->∀ l:List D,l.length=3->(∀ j:Nat,i<=j->l[j]?=l0[j]?)->body [I (i:Int),.st l]=some (.inl [I ((i+1:Nat):Int),.st (l.set i (x i))]))
  (he:∀ l,body [I ((3:Nat):Int),.st l]=some (.inr (0,[.st l]))) (hk:k (0,[.st [x 0,x 1,x 2]])=some y):Option.bind (aO body [I ((0:Nat):Int),.st l0]) k=some y:=by
 match l0,h0 with
 | [a,b,c],_=>
 have s0:=hs 0 (by decide) [a,b,c] rfl (λj _=>rfl)
 have s1:=hs 1 (by decide) [x 0,b,c] rfl (λj hj=>by cases j with|zero=>omega|succ j=>rfl)
 have s2:=hs 2 (by decide) [x 0,x 1,c] rfl (λj hj=>by cases j with|zero=>omega|succ j=>cases j with|zero=>omega|succ j=>rfl)
 exact aU s0 (aU s1 (aU s2 (dD (he _) hk)))
def Gk{l:List D}{i:Nat}{v:D}(h:i<l.length):D.set (.st l) [i] v=some (.st (l.set i v)):=by
 simp only[D.set,zda h,zba]
end Sy
end
noncomputable section
namespace Sy
open Go Go.Proofs Geo
def MO(l:List D):Bd:=λ(v1:List D)=>
 Option.bind (D.bin .add (gx v1 1) (D.int .i64 1)) λx2=>Option.bind (D.asSl (.sl l)) λl3=>Option.bind (D.bin .lss x2 (D.int .i64 (l3.length))) λx4=>Option.bind (D.truth x4) λb5=>
 if b5 then(Option.bind (D.asSl (.sl l)) λl6=>Option.bind (D.idx (gx v1 1) (l6.length)) λi7=>Option.bind (l6[i7]?) λx8=>Option.bind (D.bin .add (gx v1 1) (D.int .i64 1)) λx9=>
  Option.bind (D.asSl (.sl l)) λl10=>Option.bind (D.idx x9 (l10.length)) λi11=>Option.bind (l10[i11]?) λx12=>Option.bind (D.bin .mul x8 x12) λx13=>Option.bind (D.bin .add (gx v1 0) x13) λx14=>
  Option.bind (D.bin .add (gx v1 1) (D.int .i64 2)) λx15=>some (Sum.inl [x14,x15])) else(some (Sum.inr (0,[(gx v1 0)])))
def fA{l:List D}(k:Nat){s a b t:Int}(hl:l.length<=100)(ha:l[k]?=some (I a))(hb:l[k+1]?=some (I b))(h1:inR (a*b))(h2:inR (s+a*b))(ht:s+a*b=t):MO l [I s,I (k:Int)]=some (.inl [I t,I ((k+2:Nat):Int)]):=by
 have k1:=(zja.1 hb).1;subst ht;exact aa (a8 (a:=k) (b:=1) (by omega)) (aa (z:=l) rfl (aa ah (aa ab (az (by show((k+1:Nat):Int)<(l.length:Int);omega) (aa (z:=l) rfl (aa (ap (by omega)) (aa ha (aa (a8 (a:=k) (b:=1) (by omega)) (aa (z:=l) rfl (aa (ap k1) (aa hb (aa (ca h1) (aa (aq h2) (aa (a8 (a:=k) (b:=2) (by omega)) rfl))))))))))))))
def xw{l:List D}(k:Nat){s:Int}(hl:l.length<=100)(hk:l.length=k):MO l [I s,I (k:Int)]=some (.inr (0,[I s])):=
 aa (a8 (a:=k) (b:=1) (by omega)) (aa (z:=l) rfl (aa ah (aa ab (aG (by show ¬ (((k+1:Nat):Int)<(l.length:Int));omega) rfl))))
def oY(n:Nat){a b c d:Int}(h1:inR (a*b))(h2:inR (c*d))(h3:inR (a*b+c*d)):cA (n+1) 394 [.sl [I a,I b,I c,I d]]=some (I (a*b+c*d)):=by
 rw[LU];delta CC qB qX qL qZ iL iR Jn;exact aU (fA 0 (l:=[I a,I b,I c,I d]) (s:=0) (t:=a*b) (by simp) rfl rfl h1 (by rw[zsc];exact h1) (zsc _)) (aU (fA 2 (by simp) rfl rfl h2 h3 rfl) (dD (xw 4 (by simp) rfl) rfl))
def EL(n:Nat){a b c d e f:Int}(h1:inR (a*b))(h2:inR (c*d))(h3:inR (a*b+c*d))(h4:inR (e*f))(h5:inR (a*b+c*d+e*f)):cA (n+1) 394 [.sl [I a,I b,I c,I d,I e,I f]]=some (I (a*b+c*d+e*f)):=by
 rw[LU];delta CC qB qX qL qZ iL iR Jn;exact aU (fA 0 (l:=[I a,I b,I c,I d,I e,I f]) (s:=0) (t:=a*b) (by simp) rfl rfl h1 (by rw[zsc];exact h1) (zsc _)) (aU (fA 2 (by simp) rfl rfl h2 h3 rfl) (aU (fA 4 (by simp) rfl rfl h4 h5 rfl) (dD (xw 6 (by simp) rfl) rfl)))
def wn(n:Nat){a b c d e f g h:Int}(h1:inR (a*b))(h2:inR (c*d))(h3:inR (a*b+c*d))(h4:inR (e*f))(h5:inR (a*b+c*d+e*f))(h6:inR (g*h))(h7:inR (a*b+c*d+e*f+g*h)) :
  cA (n+1) 394 [.sl [I a,I b,I c,I d,I e,I f,I g,I h]]=some (I (a*b+c*d+e*f+g*h)):=by
 rw[LU];delta CC qB qX qL qZ iL iR Jn;exact aU (fA 0 (l:=[I a,I b,I c,I d,I e,I f,I g,I h]) (s:=0) (t:=a*b) (by simp) rfl rfl h1 (by rw[zsc];exact h1) (zsc _)) (aU (fA 2 (by simp) rfl rfl h2 h3 rfl) (aU (fA 4 (by simp) rfl rfl h4 h5 rfl) (aU (fA 6 (by simp) rfl rfl h6 h7 rfl) (dD (xw 8 (by simp) rfl) rfl))))
def il(q:Nat->Int):Nat->Int
 | 0=>q 0*q 0+q 1*q 1-q 2*q 2-q 3*q 3
 | 1=>2*(q 1*q 2-q 0*q 3)
 | 2=>2*(q 1*q 3+q 0*q 2)
 | 3=>2*(q 1*q 2+q 0*q 3)
 | 4=>q 0*q 0-q 1*q 1+q 2*q 2-q 3*q 3
 | 5=>2*(q 2*q 3-q 0*q 1)
 | 6=>2*(q 1*q 3-q 0*q 2)
 | 7=>2*(q 2*q 3+q 0*q 1)
 | _=>q 0*q 0-q 1*q 1-q 2*q 2+q 3*q 3
def Ka(m:Nat->Int):D:=.st [I (m 0),I (m 1),I (m 2),I (m 3),I (m 4),I (m 5),I (m 6),I (m 7),I (m 8)]
def pq{k:Nat}(h:k<9)(m:Nat->Int):D.get (Ka m) [k]=some (I (m k)):=by
 match k,h with
 | 0,_=>rfl
 | 1,_=>rfl
 | 2,_=>rfl
 | 3,_=>rfl
 | 4,_=>rfl
 | 5,_=>rfl
 | 6,_=>rfl
 | 7,_=>rfl
 | 8,_=>rfl
 | k+9,h=>omega
def zX(q:Nat->Int):Prop:=∀ i,i<4->(q i).natAbs<=64
def qq{q:Nat->Int}(h:zX q){i j:Nat}(hi:i<4)(hj:j<4):-4096<=q i*q j/\q i*q j<=4096:=by
 have:(q i*q j).natAbs<=64*64:=by rw[zLa];exact z2a (h i hi) (h j hj)
 omega
def aF{x:Int}(h:-4000000000<=x/\x<=4000000000):inR x:=by simp only[inR];omega
def gK{q:Nat->Int}(h:zX q)(k:Nat):-16384<=il q k/\il q k<=16384:=by
 have a00:=qq h (i:=0) (j:=0) (by decide) (by decide);have a11:=qq h (i:=1) (j:=1) (by decide) (by decide);have a22:=qq h (i:=2) (j:=2) (by decide) (by decide);have a33:=qq h (i:=3) (j:=3) (by decide) (by decide)
 have a01:=qq h (i:=0) (j:=1) (by decide) (by decide);have a02:=qq h (i:=0) (j:=2) (by decide) (by decide);have a03:=qq h (i:=0) (j:=3) (by decide) (by decide)
 have a12:=qq h (i:=1) (j:=2) (by decide) (by decide);have a13:=qq h (i:=1) (j:=3) (by decide) (by decide);have a23:=qq h (i:=2) (j:=3) (by decide) (by decide)
 unfold il;split<;>omega
def Bo{a:Int}(h:inR (-a)):D.un .neg (I a)=some (I (-a)):=by
 simp only[D.un,Int.zero_sub];rw[gP h]
def uz{a b:Int}(hb:2*a=b)(h:inR b):D.bin .mul (D.int .i64 2) (I a)=some (I b):=by
 subst hb;exact ca h
def Nf(n:Nat){q:Nat->Int}(h:zX q):cA (n+2) 393 [kF q]=some (Ka (il q)):=by
 have a00:=qq h (i:=0) (j:=0) (by decide) (by decide);have a11:=qq h (i:=1) (j:=1) (by decide) (by decide);have a22:=qq h (i:=2) (j:=2) (by decide) (by decide);have a33:=qq h (i:=3) (j:=3) (by decide) (by decide)
 have a01:=qq h (i:=0) (j:=1) (by decide) (by decide);have a02:=qq h (i:=0) (j:=2) (by decide) (by decide);have a03:=qq h (i:=0) (j:=3) (by decide) (by decide)
 have a12:=qq h (i:=1) (j:=2) (by decide) (by decide);have a13:=qq h (i:=1) (j:=3) (by decide) (by decide);have a23:=qq h (i:=2) (j:=3) (by decide) (by decide)
 have h0:=h 0 (by decide);have h1:=h 1 (by decide);have h2:=h 2 (by decide);have h3:=h 3 (by decide)
 have n0:D.un .neg (I (q 0))=some (I (-(q 0))):=Bo (aF (by omega))
 have n1:D.un .neg (I (q 1))=some (I (-(q 1))):=Bo (aF (by omega))
 have n2:D.un .neg (I (q 2))=some (I (-(q 2))):=Bo (aF (by omega))
 have n3:D.un .neg (I (q 3))=some (I (-(q 3))):=Bo (aF (by omega))
 have m:∀ a b:Int,-a*b=-(a*b):=λa b=>Int.neg_mul a b;rw[Vr];delta H2 qG qB Jn;refine aa (z:=I (q 0)) rfl (aa (z:=I (q 1)) rfl (aa (z:=I (q 2)) rfl (aa (z:=I (q 3)) rfl (aa n2 (aa n3 ?_)))));refine aa (wn n (aF (by omega)) (aF (by omega)) (aF (by omega)) (aF (by rw[m];omega)) (aF (by rw[m];omega)) (aF (by rw[m];omega)) (aF (by rw[m,m];omega))) ?_
 refine aa n0 (aa (oY n (aF (by omega)) (aF (by rw[m];omega)) (aF (by rw[m];omega))) (aa (uz (b:=il q 1) (by show _=2*(q 1*q 2-q 0*q 3);rw[m];omega) (aF (by have:=gK h 1;omega))) ?_))
 refine aa (oY n (aF (by omega)) (aF (by omega)) (aF (by omega))) (aa (uz (b:=il q 2) rfl (aF (by have:=gK h 2;omega))) ?_)
 refine aa (oY n (aF (by omega)) (aF (by omega)) (aF (by omega))) (aa (uz (b:=il q 3) rfl (aF (by have:=gK h 3;omega))) ?_)
 refine aa n1 (aa n3 (aa (wn n (aF (by omega)) (aF (by rw[m];omega)) (aF (by rw[m];omega)) (aF (by omega)) (aF (by rw[m];omega)) (aF (by rw[m];omega)) (aF (by rw[m,m];omega))) ?_))
 refine aa n0 (aa (oY n (aF (by omega)) (aF (by rw[m];omega)) (aF (by rw[m];omega))) (aa (uz (b:=il q 5) (by show _=2*(q 2*q 3-q 0*q 1);rw[m];omega) (aF (by have:=gK h 5;omega))) ?_))
 refine aa n0 (aa (oY n (aF (by omega)) (aF (by rw[m];omega)) (aF (by rw[m];omega))) (aa (uz (b:=il q 6) (by show _=2*(q 1*q 3-q 0*q 2);rw[m];omega) (aF (by have:=gK h 6;omega))) ?_))
 refine aa (oY n (aF (by omega)) (aF (by omega)) (aF (by omega))) (aa (uz (b:=il q 7) rfl (aF (by have:=gK h 7;omega))) ?_)
 refine aa n1 (aa n2 (aa (wn n (aF (by omega)) (aF (by rw[m];omega)) (aF (by rw[m];omega)) (aF (by rw[m];omega)) (aF (by rw[m,m];omega)) (aF (by omega)) (aF (by rw[m,m];omega))) ?_))
 have e0:q 0*q 0+q 1*q 1+-(q 2)*q 2+-(q 3)*q 3=il q 0:=by show _=q 0*q 0+q 1*q 1-q 2*q 2-q 3*q 3;rw[m,m];omega
 have e4:q 0*q 0+-(q 1)*q 1+q 2*q 2+-(q 3)*q 3=il q 4:=by show _=q 0*q 0-q 1*q 1+q 2*q 2-q 3*q 3;rw[m,m];omega
 have e8:q 0*q 0+-(q 1)*q 1+-(q 2)*q 2+q 3*q 3=il q 8:=by show _=q 0*q 0-q 1*q 1-q 2*q 2+q 3*q 3;rw[m,m];omega
 rw[e0,e4,e8];rfl
def dG(q:Nat->Int)(v:V)(i:Nat):Int:=il q (3*i)*v.x+il q (3*i+1)*v.y+il q (3*i+2)*v.z
def eC(q:Nat->Int):Int:=q 0*q 0+q 1*q 1+q 2*q 2+q 3*q 3
def vz{q:Nat->Int}(h:zX q)(k:Nat){x:Int}(hx:x.natAbs<=4096):-67108864<=il q k*x/\il q k*x<=67108864:=by
 have:=gK h k;have:(il q k*x).natAbs<=16384*4096:=by rw[zLa];exact z2a (by omega) hx
 omega
def jT{q:Nat->Int}(h:zX q){v:V}(hv:bd 4096 v)(i:Nat):-201326592<=dG q v i/\dG q v i<=201326592:=by
 obtain⟨v1,v2,v3⟩:=mO (k:=4096) hv;have a:=vz h (3*i) v1;have b:=vz h (3*i+1) v2;have c:=vz h (3*i+2) v3;unfold dG;omega
def xp{q:Nat->Int}(h:zX q)(h0:∃ i,i<4/\q i≠0):0<eC q/\eC q<=16384:=by
 have a00:=qq h (i:=0) (j:=0) (by decide) (by decide);have a11:=qq h (i:=1) (j:=1) (by decide) (by decide);have a22:=qq h (i:=2) (j:=2) (by decide) (by decide);have a33:=qq h (i:=3) (j:=3) (by decide) (by decide)
 have p0:=lF (q 0);have p1:=lF (q 1);have p2:=lF (q 2);have p3:=lF (q 3);have pos:∀ x:Int,x≠0->0<x*x:=λx hx=>by
  have:=lF x;rcases znb this with h|h
  ·exact h
  ·rcases zCc.1 h.symm with h|h<;>exact absurd h hx
 obtain⟨i,hi,hq⟩:=h0;have hp:=pos _ hq;unfold eC;refine⟨?_,by omega⟩
 match i,hi with
 | 0,_=>omega
 | 1,_=>omega
 | 2,_=>omega
 | 3,_=>omega
 | k+4,h=>omega
def E5(f:Nat->Int):D:=.st [I (f 0),I (f 1),I (f 2)]
def C6{k:Nat}(h:k<9):D.idx (I (k:Int)) 9=some k:=ap h
def TM(n:Nat){q:Nat->Int}(h:zX q){v:V}(hv:bd 4096 v):cA (n+3) 386 [kF q,ac v]=some (E5 (dG q v)):=by
 obtain⟨v1,v2,v3⟩:=mO (k:=4096) hv;rw[Oh];delta Ep qG qB qC qJ qZ iL iR Jn;refine aa (Nf n h) ?_;refine Kk (l0:=[I 0,I 0,I 0]) (λi=>I (dG q v i)) rfl (λi hi l hl hj=>?_) (λl=>aa ah (aa ab (aG (by decide) rfl))) rfl
 have a:=vz h (3*i) v1;have b:=vz h (3*i+1) v2;have c:=vz h (3*i+2) v3;have k0:D.bin .mul (D.int .i64 3) (I (i:Int))=some (I ((3*i:Nat):Int)):=mN (a:=3) (b:=i) (by omega)
 have k1:D.bin .add (I ((3*i:Nat):Int)) (D.int .i64 1)=some (I ((3*i+1:Nat):Int)):=a8 (a:=3*i) (b:=1) (by omega)
 have k2:D.bin .add (I ((3*i:Nat):Int)) (D.int .i64 2)=some (I ((3*i+2:Nat):Int)):=a8 (a:=3*i) (b:=2) (by omega)
 refine aa ah (aa ab (az (by show(i:Int)<3;omega) ?_))
 refine aa k0 (aa (C6 (by omega)) (aa (pq (by omega) _) (aa (z:=I v.x) rfl ?_)))
 refine aa k0 (aa k1 (aa (C6 (by omega)) (aa (pq (by omega) _) (aa (z:=I v.y) rfl ?_))))
 refine aa k0 (aa k2 (aa (C6 (by omega)) (aa (pq (by omega) _) (aa (z:=I v.z) rfl ?_))))
 refine aa (EL (n+1) (aF (by omega)) (aF (by omega)) (aF (by omega)) (aF (by omega)) (aF (by omega))) ?_
 exact aa (ap hi) (aa (Gk (by omega)) (aa (a8 (a:=i) (b:=1) (by omega)) rfl))
def TL(n:Nat){q:Nat->Int}(h:zX q):cA (n+3) 385 [kF q]=some (I (eC q)):=by
 have a00:=qq h (i:=0) (j:=0) (by decide) (by decide);have a11:=qq h (i:=1) (j:=1) (by decide) (by decide);have a22:=qq h (i:=2) (j:=2) (by decide) (by decide);have a33:=qq h (i:=3) (j:=3) (by decide) (by decide)
 rw[Vp];unfold H0;refine aa (z:=I (eC q)) ?_ rfl;rw[Vq];delta H1 qG;refine aa (z:=I (q 0)) rfl (aa (z:=I (q 0)) rfl (aa (z:=I (q 1)) rfl (aa (z:=I (q 1)) rfl (aa (z:=I (q 2)) rfl (aa (z:=I (q 2)) rfl (aa (z:=I (q 3)) rfl (aa (z:=I (q 3)) rfl ?_)))))));exact aa (wn n (aF (by omega)) (aF (by omega)) (aF (by omega)) (aF (by omega)) (aF (by omega)) (aF (by omega)) (aF (by omega))) rfl
end Sy
end
noncomputable section
namespace Sy
open Go Go.Proofs Geo
def qi{x:Int}(h:-4611686018427387904<=x/\x<=4611686018427387904):inR x:=by simp only[inR];omega
def AD{q:Nat->Int}(h:zX q)(k:Nat){x:Int}(hx:x.natAbs<=1099511627776):-18014398509481984<=il q k*x/\il q k*x<=18014398509481984:=by
 have:=gK h k;have:(il q k*x).natAbs<=16384*1099511627776:=by rw[zLa];exact z2a (by omega) hx
 omega
def J6(n:Nat){q:Nat->Int}(h:zX q){v:V}(hv:bd 1099511627776 v):cA (n+3) 386 [kF q,ac v]=some (E5 (dG q v)):=by
 obtain⟨v1,v2,v3⟩:=mO (k:=1099511627776) hv;rw[Oh];delta Ep qG qB qC qJ qZ iL iR Jn;refine aa (Nf n h) ?_;refine Kk (l0:=[I 0,I 0,I 0]) (λi=>I (dG q v i)) rfl (λi hi l hl hj=>?_) (λl=>aa ah (aa ab (aG (by decide) rfl))) rfl
 have a:=AD h (3*i) v1;have b:=AD h (3*i+1) v2;have c:=AD h (3*i+2) v3;have k0:D.bin .mul (D.int .i64 3) (I (i:Int))=some (I ((3*i:Nat):Int)):=mN (a:=3) (b:=i) (by omega)
 have k1:D.bin .add (I ((3*i:Nat):Int)) (D.int .i64 1)=some (I ((3*i+1:Nat):Int)):=a8 (a:=3*i) (b:=1) (by omega)
 have k2:D.bin .add (I ((3*i:Nat):Int)) (D.int .i64 2)=some (I ((3*i+2:Nat):Int)):=a8 (a:=3*i) (b:=2) (by omega)
 refine aa ah (aa ab (az (by show(i:Int)<3;omega) ?_))
 refine aa k0 (aa (C6 (by omega)) (aa (pq (by omega) _) (aa (z:=I v.x) rfl ?_)))
 refine aa k0 (aa k1 (aa (C6 (by omega)) (aa (pq (by omega) _) (aa (z:=I v.y) rfl ?_))))
 refine aa k0 (aa k2 (aa (C6 (by omega)) (aa (pq (by omega) _) (aa (z:=I v.z) rfl ?_))))
 refine aa (EL (n+1) (qi (by omega)) (qi (by omega)) (qi (by omega)) (qi (by omega)) (qi (by omega))) ?_
 exact aa (ap hi) (aa (Gk (by omega)) (aa (a8 (a:=i) (b:=1) (by omega)) rfl))
end Sy
end
noncomputable section
namespace Sy
open Go Go.Proofs Geo
def qs(x:V)(q:Nat->Int)(v:V):V:=⟨dG q v 0+eC q*x.x,dG q v 1+eC q*x.y,dG q v 2+eC q*x.z⟩
def PB:Int:=2305843009415020544
structure PoseOk(x:V)(q:Nat->Int):Prop where
 hx:bd 140737488355327 x
 hq:zX q
 h0:∃ i,i<4/\q i≠0
def vV{x:V}{q:Nat->Int}(h:PoseOk x q){a:Int}(ha:-140737488355327<=a/\a<=140737488355327):-2305843009213693952<=eC q*a/\eC q*a<=2305843009213693952:=by
 have s:=xp h.hq h.h0;have:(eC q*a).natAbs<=16384*140737488355327:=by rw[zLa];exact z2a (by omega) (by omega)
 omega
def LF{x:V}{q:Nat->Int}(h:PoseOk x q){v:V}(hv:bd 4096 v):bd PB (qs x q v):=by
 have t0:=jT h.hq hv 0;have t1:=jT h.hq hv 1;have t2:=jT h.hq hv 2;have s0:=vV h h.hx.1;have s1:=vV h h.hx.2.1;have s2:=vV h h.hx.2.2;simp only[bd,qs,PB];omega
def gE(x:V)(q:Nat->Int)(l:List V):D:=.st [eV x q,cm l,I (eC q),a7 (l.map (qs x q))]
def NZ{x:V}{q:Nat->Int}{l:List V}{i:Nat}(hi:i<l.length):((l.take i).map λv=>ac (qs x q v))++[ac (qs x q l[i])]=(l.take (i+1)).map λv=>ac (qs x q v):=by
 rw[List.take_add_one,zda hi];simp only[Option.toList_some,z3b,z4a,zbd]
def ID(n:Nat){x:V}{q:Nat->Int}(h:PoseOk x q){l:List V}(hl:∀ v∈l,bd 4096 v)(hlen:l.length<=100):cA (n+4) 433 [eV x q,cm l]=some (gE x q l):=by
 rw[Vy];delta Ia qG qB qC qS qX qJ qV qW qZ iL iR Jn;refine aa (z:=kF q) rfl (aa (TL n h.hq) (aa (z:=a7 l) rfl (aa (z:=l.map ac) rfl ?_)));obtain⟨Z,hZ⟩:∃ Z,D.st [D.st [I 0,I 0,I 0],D.st [I 0,I 0,I 0,I 0]]=Z:=⟨_,rfl⟩;refine bZ (λi s=>s=[I (i:Int),Z,.sl [],I 0,.sl [],eV x q,cm l,I (eC q),.sl ((l.take i).map λv=>ac (qs x q v))]) l.length 0 (zma _) (by rw[<-hZ];rfl) (λi hi s hs=>?_) (λs hs=>?_)
 ·subst hs;left;have hv:bd 4096 l[i]:=hl _ (zIa hi);have t0:=jT h.hq hv 0;have t1:=jT h.hq hv 1;have t2:=jT h.hq hv 2;have s0:=vV h h.hx.1;have s1:=vV h h.hx.2.1;have s2:=vV h h.hx.2.2;refine⟨_,?_,rfl⟩;refine aa ah (aa ab (az (by rw[aL];omega) ?_))
  refine aa (z:=l.map ac) rfl (aa (z:=i) (by rw[aL];exact ap hi) (aa (z:=ac l[i]) (by simp[hi]) ?_))
  refine aa (z:=kF q) rfl (aa (TM n h.hq hv) ?_);obtain⟨L,hL⟩:∃ L,((l.take i).map λv=>ac (qs x q v))=L:=⟨_,rfl⟩;obtain⟨v,hv'⟩:∃ v,l[i]=v:=⟨_,rfl⟩;rw[<-NZ hi,hv',hL];rw[hv'] at t0 t1 t2;refine aU (s':=[I 1,Z,.sl [],I 0,.sl [],eV x q,cm l,I (eC q),.sl L,.st [I (qs x q v).x,I (dG q v 1),I (dG q v 2)]]) ?_ (aU (s':=[I 2,Z,.sl [],I 0,.sl [],eV x q,cm l,I (eC q),.sl L,.st [I (qs x q v).x,I (qs x q v).y,I (dG q v 2)]]) ?_ (aU (s':=[I 3,Z,.sl [],I 0,.sl [],eV x q,cm l,I (eC q),.sl L,ac (qs x q v)]) ?_ (dD (r:=(0,[Z,.sl [],I 0,.sl [],eV x q,cm l,I (eC q),.sl L,ac (qs x q v)])) ?_ ?_)))
  ·exact aa (z:=.bool true) rfl (aa (z:=true) rfl (fm (aa (z:=0) rfl (aa (z:=I (dG q v 0)) rfl (aa (z:=0) rfl (aa (z:=I x.x) rfl (aa (ca (qi (by omega))) (aa (aq (by simp only[inR];omega)) (aa (z:=0) rfl (aa (z:=.st [I (qs x q v).x,I (dG q v 1),I (dG q v 2)]) rfl (aa (z:=I 1) rfl rfl)))))))))))
  ·exact aa (z:=.bool true) rfl (aa (z:=true) rfl (fm (aa (z:=1) rfl (aa (z:=I (dG q v 1)) rfl (aa (z:=1) rfl (aa (z:=I x.y) rfl (aa (ca (qi (by omega))) (aa (aq (by simp only[inR];omega)) (aa (z:=1) rfl (aa (z:=.st [I (qs x q v).x,I (qs x q v).y,I (dG q v 2)]) rfl (aa (z:=I 2) rfl rfl)))))))))))
  ·exact aa (z:=.bool true) rfl (aa (z:=true) rfl (fm (aa (z:=2) rfl (aa (z:=I (dG q v 2)) rfl (aa (z:=2) rfl (aa (z:=I x.z) rfl (aa (ca (qi (by omega))) (aa (aq (by simp only[inR];omega)) (aa (z:=2) rfl (aa (z:=ac (qs x q v)) rfl (aa (z:=I 3) rfl rfl)))))))))))
  ·exact aa (z:=.bool false) rfl (aa (z:=false) rfl rfl)
  ·have hn:List.length (D.els (.sl L))+List.length [ac (qs x q v)]<=1073741824:=by
    rw[<-hL];show((l.take i).map _).length+1<=_;simp;omega
   refine(if_pos hn).trans ?_;exact aa (a8 (a:=i) (b:=1) (by omega)) rfl
 ·subst hs;refine⟨_,aa ah (aa ab (aG (by rw[aL];omega) rfl)),?_⟩
  rw[zgb (zha _)];simp only[gE,a7,List.map_map];rfl
end Sy
end
noncomputable section
namespace Sy
open Go Go.Proofs Geo
def NB:Int:=2305843009213693951
def uK{u v:V}(hu:bd NB u)(hv:bd PB v):(u.x*v.x).natAbs<=2^123/\(u.y*v.y).natAbs<=2^123/\(u.z*v.z).natAbs<=2^123:=by
 have key:∀ a b:Int,(-NB<=a/\a<=NB)->(-PB<=b/\b<=PB)->(a*b).natAbs<=2^123:=λa b ha hb=>by
  rw[zLa];simp only[NB,PB] at ha hb;exact bD (i:=61) (j:=62) (by rw[show(2:Nat)^61=2305843009213693952 from rfl];omega) (by rw[show(2:Nat)^62=4611686018427387904 from rfl];omega) (by decide)
 exact⟨key _ _ hu.1 hv.1,key _ _ hu.2.1 hv.2.1,key _ _ hu.2.2 hv.2.2⟩
def kW{u v:V}(hu:bd NB u)(hv:bd PB v):In (u.x*v.x)/\In (u.y*v.y)/\In (u.z*v.z)/\In (u.x*v.x+u.y*v.y)/\In (V.dot u v):=by
 obtain⟨h1,h2,h3⟩:=uK hu hv;have e1:=zEc (u.x*v.x) (u.y*v.y);have e2:=zEc (u.x*v.x+u.y*v.y) (u.z*v.z);exact⟨gV (by decide) h1,gV (by decide) h2,gV (by decide) h3,gV (k:=130) (by decide) (by omega),gV (k:=130) (by decide) (by unfold V.dot;omega)⟩
def wL{u:V}(hu:bd NB u):inR u.x/\inR u.y/\inR u.z:=by simp only[bd,NB] at hu;simp only[inR];omega
def Fn{u:V}(hu:bd PB u):inR u.x/\inR u.y/\inR u.z:=by simp only[bd,PB] at hu;simp only[inR];omega
def KW(n:Nat){u v:V}(hu:bd NB u)(hv:bd PB v):cA (n+6) 91 [ac u,ac v]=some (ag (V.dot u v)):=by
 obtain⟨a1,a2,a3⟩:=wL hu;obtain⟨b1,b2,b3⟩:=Fn hv;obtain⟨i1,i2,i3,j2,j3⟩:=kW hu hv;have j0:In 0:=bG (ib 0);rw[YK];unfold OY;refine aa (IA (n+2) a1 a2 a3) (aa (IA (n+2) b1 b2 b3) (aa (z:=ag (V.dot u v)) ?_ rfl));rw[UU];delta Hx qB qC qJ qZ iL iR Jn;refine aa (xW (n+2) (ib 0)) ?_;refine aU (s':=[I 1,ag (u.x*v.x)]) ?_ (aU (s':=[I 2,ag (u.x*v.x+u.y*v.y)]) ?_ (aU (s':=[I 3,ag (V.dot u v)]) ?_ (dD (r:=(0,[ag (V.dot u v)])) ?_ rfl)))
 ·exact aa (z:=.bool true) rfl (aa (z:=true) rfl (fm (aa (z:=0) rfl (aa (z:=ag u.x) rfl (aa (z:=0) rfl (aa (z:=ag v.x) rfl (aa (EW (n+1) (bG a1) (bG b1) i1) (aa (EN n j0 i1 (by rw[zsc];exact i1)) (aa (z:=I 1) rfl (by rw[zsc]))))))))))
 ·exact aa (z:=.bool true) rfl (aa (z:=true) rfl (fm (aa (z:=1) rfl (aa (z:=ag u.y) rfl (aa (z:=1) rfl (aa (z:=ag v.y) rfl (aa (EW (n+1) (bG a2) (bG b2) i2) (aa (EN n i1 i2 j2) (aa (z:=I 2) rfl rfl)))))))))
 ·exact aa (z:=.bool true) rfl (aa (z:=true) rfl (fm (aa (z:=2) rfl (aa (z:=ag u.z) rfl (aa (z:=2) rfl (aa (z:=ag v.z) rfl (aa (EW (n+1) (bG a3) (bG b3) i3) (aa (EN n j2 i3 j3) (aa (z:=I 3) rfl rfl)))))))))
 ·exact aa (z:=.bool false) rfl (aa (z:=false) rfl rfl)
def KV(n:Nat){x y:Int}(hx:In x)(hy:In y)(h:In (x*y)):cA (n+4) 89 [ag x,ag y]=some (ag (x*y)):=by
 rw[CP n hx hy,lV h];rfl
def No(n:Nat){x y:Int}(hx:In x)(hy:In y)(h:In (x+y)):cA (n+4) 59 [ag x,ag y]=some (ag (x+y)):=by
 have:=Nn n (a:=some x) (b:=some y) (aY hx) (aY hy);rw[Bl h] at this;exact this
def Nb(n:Nat){u v:V}(hu:bd NB u)(hv:bd PB v):cA (n+6) 33 [ac u,ac v]=some (ag (V.dot u v)):=by
 obtain⟨a1,a2,a3⟩:=wL hu;obtain⟨b1,b2,b3⟩:=Fn hv;obtain⟨i1,i2,i3,j2,j3⟩:=kW hu hv;rw[Yk];unfold Ox;refine aa (TY (n+1) a1 a2 a3) (aa (TY (n+1) b1 b2 b3) (aa (z:=ag (V.dot u v)) ?_ rfl));rw[YD];delta OQ qG;refine aa (z:=ag u.x) rfl (aa (z:=ag v.x) rfl (aa (KV n (bG a1) (bG b1) i1) (aa (z:=ag u.y) rfl (aa (z:=ag v.y) rfl (aa (KV n (bG a2) (bG b2) i2) ?_)))));exact aa (No n i1 i2 j2) (aa (z:=ag u.z) rfl (aa (z:=ag v.z) rfl (aa (KV n (bG a3) (bG b3) i3) (aa (No n j2 i3 j3) rfl))))
def y6(u:V)(L:List V):Nat->Int
 | 0=>V.dot u (pt L 0)
 | k+1=>if V.dot u (pt L (k+1))>y6 u L k then V.dot u (pt L (k+1)) else y6 u L k
def y7(u:V)(L:List V)(k:Nat):y6 u L (k+1)=if V.dot u (pt L (k+1))>y6 u L k then V.dot u (pt L (k+1)) else y6 u L k:=rfl
def jp{L:List V}{i:Nat}(h:i<L.length):pt L i∈L:=by
 unfold pt;rw[z5a,zda h];exact zIa h
def xe{L:List V}{i:Nat}(h:i<L.length):(L.map ac)[i]?=some (ac (pt L i)):=by
 unfold pt;rw[z8a,z5a,zda h];rfl
theorem AE{u:V}{L:List V}(hu:bd NB u)(hL:∀ v∈L,bd PB v):∀ k,k<L.length->In (y6 u L k)
 | 0,h=>(kW hu (hL _ (jp h))).2.2.2.2
 | k+1,h=>by
  unfold y6;split
  ·exact(kW hu (hL _ (jp h))).2.2.2.2
  ·exact AE hu hL k (by omega)
def IP(a b:Int):decide (ba a b>0)=decide (a>b):=by
 unfold ba;split<;>(try split)<;>simp<;>omega
def fa(u x:V)(q:Nat->Int)(l:List V):Rat:=Rat.divInt (y6 u (l.map (qs x q)) (l.length-1)) (eC q)
def xd{x:V}{q:Nat->Int}(h:PoseOk x q){l:List V}(hl:∀ v∈l,bd 4096 v):∀ v∈l.map (qs x q),bd PB v:=λv hv=>by
 obtain⟨w,hw,rfl⟩:=z7a.1 hv;exact LF h (hl w hw)
def tG{x:V}{q:Nat->Int}(h:PoseOk x q):inR (eC q)/\eC q≠0:=by
 have:=xp h.hq h.h0;exact⟨by simp only[inR];omega,by omega⟩
def tq{u x:V}{q:Nat->Int}(hu:bd NB u)(h:PoseOk x q){l:List V}(hl:∀ v∈l,bd 4096 v)(h0:0<l.length):InR (fa u x q l):=
 fK (AE hu (xd h hl) _ (by simp;omega)) (bG (tG h).1) (tG h).2
def KS(n:Nat){u x:V}{q:Nat->Int}(hu:bd NB u)(h:PoseOk x q){l:List V}(hl:∀ v∈l,bd 4096 v)(h0:0<l.length)(hlen:l.length<=100):cA (n+1031) 435 [gE x q l,ac u]=some (gz (fa u x q l)):=by
 have hs:=tG h;have hP:=xd h hl;have hin:=AE hu hP;unfold gE fa;obtain⟨L,hL⟩:∃ L,l.map (qs x q)=L:=⟨_,rfl⟩;have hk:L.length=l.length:=by rw[<-hL];simp
 rw[hL] at hP hin ⊢;rw[VA];delta Ic qG qB qC qI qY qP qZ iL iR Jn;refine aa (z:=a7 L) rfl (aa (z:=L.map ac) rfl (aa (z:=0) (by rw[aL];exact ap (i:=0) (by omega)) (aa (xe (by omega)) ?_)))
 refine aa (KW (n+1024) hu (hP _ (jp (by omega)))) ?_
 refine aa (z:=a7 L) rfl (aa (z:=L.map ac) rfl (aa (z:=(L.map ac).drop 1) ?_ ?_))
 ·unfold D.cut;rw[if_pos ⟨by rw[aL];omega,zha _⟩,zgb (zha _)]
 have hd:((L.map ac).drop 1).length=l.length-1:=by rw[List.length_drop,aL,hk]
 refine bZ (λi s=>s=[I (i:Int),ag (y6 u L i)]) (l.length-1) 0 (zma _) rfl (λi hi s hj=>?_) (λs hj=>?_)
 ·subst hj;left;refine⟨_,?_,rfl⟩;have hm:=jp (L:=L) (i:=i+1) (by omega)
  refine aa ah (aa ab (az (by rw[hd];omega) ?_))
  refine aa (z:=(0,[ag (y6 u L (i+1))])) ?_ (aa (a8 (a:=i) (b:=1) (by omega)) rfl)
  refine aa (z:=i) (by rw[hd];exact ap hi) (aa (z:=ac (pt L (i+1))) (by rw[zfb,zrc];exact xe (by omega)) ?_)
  refine aa (KW (n+1024) hu (hP _ hm)) (aa (O9 (n+1026) (kW hu (hP _ hm)).2.2.2.2 (hin i (by omega))) ?_)
  refine aa (z:=.bool (decide (V.dot u (pt L (i+1))>y6 u L i))) (by rw[<-IP];exact cV) (aa ab ?_)
  rw[y7];by_cases hc:V.dot u (pt L (i+1))>y6 u L i
  ·rw[if_pos hc];exact az hc rfl
  ·rw[if_neg hc];exact aG hc rfl
 ·subst hj;refine⟨_,aa ah (aa ab (aG (by rw[hd];omega) rfl)),?_⟩
  exact aa (z:=I (eC q)) rfl (aa (xW (n+1028) hs.1) (aa (L8 n (hin _ (by omega)) (bG hs.1) hs.2) rfl))
end Sy
end
noncomputable section
namespace Sy
open Go Go.Proofs Geo
def Gy{x y:Int}(hy:0<y):(0<=x/\x/y=x.tdiv y/\x%y=x.tmod y/\0<=x.tmod y)\/(x<0/\x.tmod y=0/\x/y=x.tdiv y/\x%y=0)\/(x<0/\x.tmod y<0/\x/y=x.tdiv y-1/\x%y=x.tmod y+y):=by
 have e:=Int.mul_tdiv_add_tmod x y;have l:=Int.tmod_lt_of_pos x hy;have l2:=Int.lt_tmod_of_pos x hy;by_cases hx:0<=x
 ·have h0:=Int.tmod_nonneg y hx;have:=(Int.ediv_emod_unique (a:=x) (q:=x.tdiv y) (r:=x.tmod y) hy).2 ⟨by omega,h0,l⟩
  exact .inl ⟨hx,this.1,this.2,h0⟩
 ·have h0:x.tmod y<=0:=by
   have h1:=Int.tmod_nonneg y (show 0<=-x by omega)
   rw[Int.neg_tmod] at h1;omega
  by_cases hz:x.tmod y=0
  ·have:=(Int.ediv_emod_unique (a:=x) (q:=x.tdiv y) (r:=x.tmod y) hy).2 ⟨by omega,by omega,l⟩
   exact .inr (.inl ⟨by omega,hz,this.1,by rw[this.2,hz]⟩)
  ·have e2:y*(x.tdiv y-1)=y*x.tdiv y-y:=by rw[Int.mul_sub,Int.mul_one]
   have:=(Int.ediv_emod_unique (a:=x) (q:=x.tdiv y-1) (r:=x.tmod y+y) hy).2 ⟨by omega,by omega,by omega⟩
   exact .inr (.inr ⟨by omega,by omega,this.1,this.2⟩)
def FN{x y:Int}(hy:0<y):(0<=x/\x/y=((x.natAbs/y.natAbs:Nat):Int)/\x%y=((x.natAbs%y.natAbs:Nat):Int))\/(x<0/\x.natAbs%y.natAbs=0/\x/y=-((x.natAbs/y.natAbs:Nat):Int)/\x%y=0) ∨
  (x<0/\0<x.natAbs%y.natAbs/\x/y=-((x.natAbs/y.natAbs:Nat):Int)-1/\x%y=((y.natAbs-x.natAbs%y.natAbs:Nat):Int)):=by
 have e:=zSb x.natAbs y.natAbs;have l:=zPa x.natAbs (show 0<y.natAbs by omega)
 have ey:(y.natAbs:Int)=y:=by omega
 have ez:y*((x.natAbs/y.natAbs:Nat):Int)+((x.natAbs%y.natAbs:Nat):Int)=(x.natAbs:Int):=by
  rw[<-e,z6c,zVa,ey,e]
 generalize x.natAbs/y.natAbs=Q at *;generalize x.natAbs%y.natAbs=R at *;by_cases hx:0<=x
 ·have:=(Int.ediv_emod_unique (a:=x) (q:=Q) (r:=R) hy).2 ⟨by omega,by omega,by omega⟩
  exact .inl ⟨hx,this⟩
 ·have e2:y*-(Q:Int)=-(y*Q):=Int.mul_neg ..;by_cases hz:R=0
  ·have:=(Int.ediv_emod_unique (a:=x) (q:=-Q) (r:=0) hy).2 ⟨by omega,by omega,by omega⟩
   exact .inr (.inl ⟨by omega,hz,this⟩)
  ·have e3:y*(-(Q:Int)-1)=-(y*Q)-y:=by rw[Int.mul_sub,Int.mul_one,e2]
   have:=(Int.ediv_emod_unique (a:=x) (q:=-Q-1) (r:=((y.natAbs-R:Nat):Int)) hy).2 ⟨by omega,by omega,by omega⟩
   exact .inr (.inr ⟨by omega,by omega,this⟩)
def Es{x y:Int}(hy:In y)(h:0<y):In (x%y):=by
 have a:=Int.emod_nonneg x (show y≠0 by omega)
 have b:=Int.emod_lt_of_pos x h;unfold In at *;omega
def lI{x y:Int}(h:0<y):0<=x%y/\x%y<y:=⟨Int.emod_nonneg x (by omega),Int.emod_lt_of_pos x h⟩
end Sy
end
noncomputable section
namespace Sy
open Go Go.Proofs Geo
def J2(n:Nat){x y:Int}(hx:In x)(hy:In y)(hy0:0<y):cA (n+6) 172 [ag x,ag y]=some (.tup [ag (x/y),ag (x%y)]):=by
 have hqn:(x/y).natAbs<=x.natAbs:=Int.natAbs_ediv_le_natAbs x y;have hqi:In (x/y):=np hx y;have wm:=lI (x:=x) hy0;rw[Oa];delta Ei qG qB qT qN Jn;have h118:cA (n+5) 118 [.sl [ag x,ag y]]=some (.bool true):=rP (n+3) (a:=some x) (b:=some y) (aY hx) (aY hy);have hbe:∀ a b:Int,D.beq (I a) (.int .i64 b)=decide (a=b):=λa b=>bK;refine aa h118 (aa aP (aa (z:=false) rfl (aa (z:=false) ?_ (aa (z:=false) rfl ?_))))
 ·rw[if_neg (by decide)]
  refine aa (qQ (n+2) hy) ?_;rw[hbe,decide_eq_false (Cp (by omega))];rfl
 rw[if_neg (by decide)]
 by_cases fast:(inR x/\x≠-9223372036854775808)/\inR y/\y≠-9223372036854775808
 ·obtain⟨⟨fx,fx1⟩,fy,fy1⟩:=fast;have hx202:cA (n+5) 202 [ag x]=some (.tup [I x,.bool true]):=by
   rcases wl (n+1) hx with⟨_,h⟩|⟨h,_⟩
   ·exact h
   ·exact absurd fx h
  have hy202:cA (n+5) 202 [ag y]=some (.tup [I y,.bool true]):=by
   rcases wl (n+1) hy with⟨_,h⟩|⟨h,_⟩
   ·exact h
   ·exact absurd fy h
  simp only[inR] at fx fy;have hqr:inR (x/y):=by simp only[inR];omega
  have hmr:inR (x%y):=by simp only[inR];omega
  refine aa (z:=(0,[ag (x/y),ag (x%y)])) ?_ rfl;refine aa hx202 (aa (z:=I x) rfl (aa (z:=.bool true) rfl (aa (z:=true) rfl (aa (z:=true) ?_ (aa (z:=true) rfl ?_)))))
  ·rw[if_pos rfl,hbe,decide_eq_false fx1];rfl
  rw[if_pos rfl];refine aa hy202 (aa (z:=I y) rfl (aa (z:=.bool true) rfl (aa (z:=true) rfl (aa (z:=true) ?_ (aa (z:=true) rfl ?_)))))
  ·rw[if_pos rfl,hbe,decide_eq_false fy1];rfl
  rw[if_pos rfl];have htq:inR (x.tdiv y):=by
   have:(x.tdiv y).natAbs<=x.natAbs:=by rw[Int.natAbs_tdiv];exact zoc _ _
   simp only[inR];omega
  refine aa (rJ (by omega) htq) (aa (nL (by omega)) (aa (z:=(0,[I (x/y),I (x%y)])) ?_ (aa (xW (n+3) hqr) (aa (xW (n+3) hmr) rfl))))
  refine aa ab ?_;rw[hbe];rcases Gy (x:=x) hy0 with⟨h0,h1,h2,h3⟩|⟨h0,h1,h2,h3⟩|⟨h0,h1,h2,h3⟩
  ·rw[h1,h2];refine aa (z:=false) ?_ (aa ab rfl);by_cases hz:x.tmod y=0
   ·rw[decide_eq_true hz];rfl
   ·rw[decide_eq_false hz];refine fm (aa ah (aa ah ?_));rw[decide_eq_false (by omega),decide_eq_false (by omega)];rfl
  ·rw[h2,h3,h1];exact aa (z:=false) rfl (aa ab rfl)
  ·rw[decide_eq_false (show ¬ x.tmod y=0 by omega)]
   refine aa (z:=true) (fm (aa ah (aa ah ?_))) (aa ab ?_)
   ·rw[decide_eq_true (by omega),decide_eq_false (by omega)];rfl
   ·rw[h2] at hqr ⊢;rw[h3] at hmr ⊢;exact fm (aa (cO hqr) (aa (aq hmr) rfl))
 ·refine aa (z:=(1,[.st [.bool false,.bool false,ar aQ],.st [.bool false,.bool false,ar aQ]])) ?_ ?_
  ·rcases wl (n+1) hx with⟨fx,h⟩|⟨fx,h⟩
   ·by_cases fx1:x=-9223372036854775808
    ·refine aa h (aa (z:=I x) rfl (aa (z:=.bool true) rfl (aa (z:=true) rfl (aa (z:=false) ?_ (aa (z:=false) rfl rfl)))));rw[if_pos rfl,hbe,decide_eq_true fx1];rfl
    ·refine aa h (aa (z:=I x) rfl (aa (z:=.bool true) rfl (aa (z:=true) rfl (aa (z:=true) ?_ (aa (z:=true) rfl ?_)))))
     ·rw[if_pos rfl,hbe,decide_eq_false fx1];rfl
     rw[if_pos rfl];rcases wl (n+1) hy with⟨fy,h2⟩|⟨fy,h2⟩
     ·have fy1:y=-9223372036854775808:=Classical.byContradiction λk=>fast ⟨⟨fx,fx1⟩,fy,k⟩;refine aa h2 (aa (z:=I y) rfl (aa (z:=.bool true) rfl (aa (z:=true) rfl (aa (z:=false) ?_ (aa (z:=false) rfl rfl)))));rw[if_pos rfl,hbe,decide_eq_true fy1];rfl
     ·exact aa h2 (aa (z:=I 0) rfl (aa (z:=.bool false) rfl (aa (z:=false) rfl (aa (z:=false) rfl (aa (z:=false) rfl rfl)))))
   ·exact aa h (aa (z:=I 0) rfl (aa (z:=.bool false) rfl (aa (z:=false) rfl (aa (z:=false) rfl (aa (z:=false) rfl rfl)))))
  rw[if_neg (by decide)]
  have hxt:=aT.1 hx;have hyt:=aT.1 hy;have hqt:x.natAbs/y.natAbs<dJ:=zKa (zoc _ _) hxt;have hrt:x.natAbs%y.natAbs<dJ:=zZb (zPa _ (by omega)) hyt
  refine aa (gH x) (aa (gH y) (aa (KN (n+1) hxt hyt (by omega)) (aa (z:=LM (x.natAbs/y.natAbs)) rfl (aa (z:=LM (x.natAbs%y.natAbs)) rfl (aa (bn x) (aa (bn y) ?_))))))
  have hb:(!(D.beq (.bool (decide (x<0))) (.bool (decide (y<0)))))=decide (x<0):=by
   have h2:¬ y<0:=by omega
   by_cases h1:x<0<;>simp[h1,h2,D.beq]
  rw[hb,gG,kL hrt eP];refine aa (rO (n+4) _ hqt) ?_;have hlast:∀ Q:Nat,(Q:Int)=x%y->Q<dJ->cA (n+5) 116 [.bool (decide (y<0)),LM Q]=some (ag (x%y)):=λQ hQ ht=>by
   rw[rO (n+4) _ ht,decide_eq_false (show ¬ y<0 by omega),show sgn false Q=(Q:Int) from rfl,hQ]
  rcases FN (x:=x) hy0 with⟨e0,e1,e2⟩|⟨e0,e1,e2,e3⟩|⟨e0,e1,e2,e3⟩
  ·refine aa (z:=(0,[LM (x.natAbs%y.natAbs),ag (x/y)])) ?_ (aa (bn y) (aa (hlast _ e2.symm hrt) rfl));have hs:sgn (decide (x<0)) (x.natAbs/y.natAbs)=x/y:=by unfold sgn;rw[decide_eq_false (by omega)];simp[e1]
   rw[hs];refine aa (z:=(!decide (x.natAbs%y.natAbs=0))) rfl (aa (z:=false) ?_ (aa (z:=false) rfl rfl));cases (!decide (x.natAbs%y.natAbs=0))
   ·rfl
   ·refine fm (aa (bn x) (aa (bn y) ?_));rw[hb,decide_eq_false (by omega)];rfl
  ·refine aa (z:=(0,[LM (x.natAbs%y.natAbs),ag (x/y)])) ?_ (aa (bn y) (aa (hlast _ (by rw[e1,e3];rfl) hrt) rfl))
   have hs:sgn (decide (x<0)) (x.natAbs/y.natAbs)=x/y:=by unfold sgn;rw[decide_eq_true e0];simp[e2]
   rw[hs,decide_eq_true e1];exact aa (z:=false) rfl (aa (z:=false) rfl (aa (z:=false) rfl rfl))
  ·have hlt:=zPa x.natAbs (show 0<y.natAbs by omega)
   refine aa (z:=(0,[LM (y.natAbs-x.natAbs%y.natAbs),ag (x/y)])) ?_ (aa (bn y) (aa (hlast _ e3.symm (by omega)) rfl))
   have hs:sgn (decide (x<0)) (x.natAbs/y.natAbs)=-((x.natAbs/y.natAbs:Nat):Int):=by unfold sgn;rw[decide_eq_true e0];rfl
   rw[hs,decide_eq_false (show ¬ x.natAbs%y.natAbs=0 by omega)]
   refine aa (z:=true) rfl (aa (z:=true) ?_ (aa (z:=true) rfl (fm ?_)))
   ·refine fm (aa (bn x) (aa (bn y) ?_));rw[hb,decide_eq_true e0];rfl
   ·have i1:In (1:Int):=bG (ib 1);have hqn2:In (-((x.natAbs/y.natAbs:Nat):Int)):=by rw[aT,zmc,zqa];exact hqt
    have h203:cA (n+5) 203 [ag (-((x.natAbs/y.natAbs:Nat):Int)),ag 1]=some (ag (x/y)):=by
     rw[Of];unfold En;have hm:In (-1:Int):=bG (ib (-1));refine aa (Cc (n+1) i1) (aa (EN n hqn2 hm (by rw[show -((x.natAbs/y.natAbs:Nat):Int)+-1=x/y by rw[e2];rfl];exact hqi)) ?_)
     rw[show -((x.natAbs/y.natAbs:Nat):Int)+-1=x/y by rw[e2];rfl]
    exact aa (xW (n+3) (ib 1)) (aa h203 (aa (gH y) (aa (KI (n+4) hyt (zhc hlt)) rfl)))
def uA(n:Nat){x y:Int}(hx:In x)(hy:In y)(hy0:0<y):cA (n+7) 132 [ag x,ag y]=some (ag (x/y)):=by
 rw[N6];unfold Ee;exact aa (J2 n hx hy hy0) (aa (z:=ag (x/y)) rfl (aa (z:=ag (x%y)) rfl rfl))
def Bw(n:Nat){x y:Int}(hx:In x)(hy:In y)(hy0:0<y):cA (n+7) 137 [ag x,ag y]=some (ag (x%y)):=by
 rw[UL];unfold Ho;exact aa (J2 n hx hy hy0) (aa (z:=ag (x/y)) rfl (aa (z:=ag (x%y)) rfl rfl))
end Sy
end
noncomputable section
namespace Sy
open Go Go.Proofs Geo
def t7{α:Type}{A B y:α}(h:B=y):(if false=true then A else B)=y:=h
def qU(a b c d:Int):Int:=ba (a*d) (c*b)
def CX(x y:Int):ba y x=-ba x y:=by unfold ba;split<;>split<;>(try split)<;>(try split)<;>omega
def wp{x y:Int}(h:x<y):ba x y=-1:=by unfold ba;rw[if_pos h]
def rY{x y:Int}(h:y<x):ba x y=1:=by unfold ba;rw[if_neg (by omega),if_pos h]
def ye(x y:Int):-1<=ba x y/\ba x y<=1:=by unfold ba;split<;>(try split)<;>omega
def yd{x y:Int}:ba x y=0↔x=y:=by unfold ba;split<;>(try split)<;>omega
def EV(t x y:Int):ba (t+x) (t+y)=ba x y:=by
 unfold ba;by_cases h:x<y
 ·rw[if_pos h,if_pos (by omega)]
 ·rw[if_neg h,if_neg (by omega)]
  by_cases h2:x>y
  ·rw[if_pos h2,if_pos (by omega)]
  ·rw[if_neg h2,if_neg (by omega)]
def vi{a b c d:Int}(hb:0<b)(hd:0<d)(h:a/b<c/d):a*d<c*b:=by
 have e1:=Int.mul_ediv_add_emod a b;have e2:=Int.mul_ediv_add_emod c d;have r1:=lI (x:=a) hb;have r2:=lI (x:=c) hd;generalize a/b=Q1 at *;generalize a%b=R1 at *;generalize c/d=Q2 at *;generalize c%d=R2 at *;have k1:0<=(Q2-Q1-1)*(b*d):=zRb (by omega) (zMa (zrb hb hd))
 have k2:0<(b-R1)*d:=zrb (by omega) hd
 have k3:0<=R2*b:=zRb r2.1 (by omega)
 subst e1 e2;have e:(d*Q2+R2)*b-(b*Q1+R1)*d=(Q2-Q1-1)*(b*d)+(b-R1)*d+R2*b:=by grind
 omega
def IM{a b c d:Int}(hb:0<b)(hd:0<d)(h:a/b≠c/d):ba (a/b) (c/d)=qU a b c d:=by
 unfold qU;rcases Int.lt_or_gt_of_ne h with h|h
 ·rw[wp h,wp (vi hb hd h)]
 ·rw[rY h,rY (vi hd hb h)]
def IL{a b c d:Int}(h:a/b=c/d):qU a b c d=qU (a%b) b (c%d) d:=by
 have e1:=Int.mul_ediv_add_emod a b;have e2:=Int.mul_ediv_add_emod c d;unfold qU;rw[<-EV (b*d*(a/b)) (a%b*d) (c%d*b)];congr 1
 ·conv=>lhs;rw[<-e1]
  grind
 ·rw[h]
  conv=>lhs;rw[<-e2]
  grind
def CW(a b c d:Int):qU b a d c=-qU a b c d:=by
 unfold qU;rw[<-CX,zkc b c,zkc d a]
def fW{x:Int}(h:0<x):sg x=1:=by unfold sg;rw[if_neg (by omega),if_pos h]
def ET{a b c d:Int}(hb:0<b)(hd:0<d)(ha:0<=a)(hc:0<=c)(h:a=0\/c=0):sg a-sg c=qU a b c d:=by
 unfold qU;rcases h with rfl|rfl
 ·rw[zYc];by_cases h0:c=0
  ·subst h0;rw[zYc];rfl
  ·rw[wp (zrb (by omega) hb),fW (x:=c) (by omega)];rfl
 ·rw[zYc];by_cases h0:a=0
  ·subst h0;rw[zYc];rfl
  ·rw[rY (zrb (by omega) hd),fW (x:=a) (by omega)];rfl
def CJ(z:Int)(m:Nat)(st:List D):Prop:=∃ s p d q e:Int,st=[I s,.st [ag p,ag d],.st [ag q,ag e]]/\(s=1\/s=-1)/\0<d/\0<e/\In p/\In d/\In q/\In e/\m=d.natAbs/\s*qU p d q e=z
def EC{s c:Int}(hs:s=1\/s=-1)(hc:-1<=c/\c<=1):D.bin .mul (I s) (I c)=some (I (s*c)):=
 ca (by
      have:c=-1\/c=0\/c=1:=by omega
      rcases hs with rfl|rfl<;>rcases this with rfl|rfl|rfl<;>exact ib _)
def Gm(x:Int):-1<=sg x/\sg x<=1:=by unfold sg;split<;>(try split)<;>omega
def uf:Option Rat->Option Rat->Int
 | some x,some y=>qU x.num x.den y.num y.den
 | none,none=>0
 | none,some _=>-1
 | some _,none=>1
def ES{x y:Rat}(hx:InR x)(hy:InR y):CJ (uf (some x) (some y)) (x.den:Int).natAbs [I 1,gz x,gz y]:=
 ⟨1,x.num,x.den,y.num,y.den,rfl,.inl rfl,by have:=x.den_pos;omega,by have:=y.den_pos;omega,hx.1,hx.2,hy.1,hy.2,rfl,Int.one_mul _⟩
def xP(a:Int):D.beq (I a) (.int .i64 0)=decide (a=0):=bK
def TX(n:Nat){a b:Option Rat}(ha:OW a)(hb:OW b):cA (n+1031) 73 [bW a,bW b]=some (I (uf a b)):=by
 rw[Yz];delta OM qG qB qT qN qZ iL iR Jn;refine aa (gY n ha) (aa (gY n hb) (aa aP (aa ab ?_)));cases a with
 | none=>
  cases b with
  | none=>exact aa (z:=true) rfl (aa ab rfl)
  | some y=>exact aa (z:=false) rfl (aa ab (t7 (aa aP (aa ab rfl))))
 | some x=>
 cases b with
 | none=>exact aa (z:=false) rfl (aa ab (t7 (aa aP (aa ab (t7 (aa aP (aa ab rfl)))))))
 | some y=>
 refine aa (z:=false) rfl (aa ab (t7 (aa aP (aa ab (t7 (aa aP (aa ab (t7 ?_))))))));have hx:=ha.some;have hy:=hb.some;refine ou (CJ (uf (some x) (some y))) _ _ (ES hx hy) (λm s hJ=>?_);obtain⟨s,p,d,q,e,rfl,hs,hd,he,ip,id,iq,ie,rfl,hz⟩:=hJ;have ip':In (p/d):=np ip d;have iq':In (q/e):=np iq e;have ir:=Es (x:=p) id hd;have it:=Es (x:=q) ie he;have wr:=lI (x:=p) hd;have wt:=lI (x:=q) he;by_cases hne:p/d=q/e
 ·have h0:ba (p/d) (q/e)=0:=yd.2 hne;have hpre:∀ {A:Option (Sum (List D) (Nat×List D))} {B y},B=some y->(if(!(D.beq (I (ba (p/d) (q/e))) (.int .i64 0)))=true then A else B)=some y:=λh=>by
   rw[xP,h0];exact h
  rw[IL hne] at hz;by_cases hr:p%d=0\/q%e=0
  ·right;have hend:=ET hd he wr.1 wt.1 hr;rw[<-hend] at hz;refine⟨(0,[I (uf (some x) (some y))]),?_,rfl⟩;refine aa (z:=ag p) rfl (aa (z:=ag d) rfl (aa (uA (n+1023) ip id hd) (aa (z:=ag q) rfl (aa (z:=ag e) rfl (aa (uA (n+1023) iq ie he) (aa (O9 (n+1026) ip' iq') (aa ab (hpre ?_))))))));refine aa (z:=ag d) rfl (aa (z:=ag p) rfl (aa (z:=ag d) rfl (aa (Bw (n+1023) ip id hd) (aa (z:=ag e) rfl (aa (z:=ag q) rfl (aa (z:=ag e) rfl (aa (Bw (n+1023) iq ie he) ?_)))))));refine aa (qQ (n+1027) ir) (aa (qQ (n+1027) it) (aa ab (aa (z:=true) ?_ (aa ab (fm ?_)))))
   ·rw[xP,xP];by_cases h1:p%d=0
    ·rw[decide_eq_true (by rw[jd];exact h1)];rfl
    ·rw[decide_eq_false (by rw[jd];exact h1),decide_eq_true (by rw[jd];exact hr.resolve_left h1)];rfl
   ·have s1:=Gm (p%d);have s2:=Gm (q%e);have s3:-1<=sg (p%d)-sg (q%e)/\sg (p%d)-sg (q%e)<=1:=by rw[hend];exact ye _ _
    refine aa (cO (by simp only[inR];omega)) (aa (EC hs s3) ?_)
    rw[hz]
  ·left;have hr1:p%d≠0:=λh=>hr (.inl h);have hr2:q%e≠0:=λh=>hr (.inr h);refine⟨(p%d).natAbs,[I (-s),.st [ag d,ag (p%d)],.st [ag e,ag (q%e)]],by omega,?_,-s,d,p%d,e,q%e,rfl,by omega,by omega,by omega,id,ir,ie,it,rfl,?_⟩
   ·refine aa (z:=ag p) rfl (aa (z:=ag d) rfl (aa (uA (n+1023) ip id hd) (aa (z:=ag q) rfl (aa (z:=ag e) rfl (aa (uA (n+1023) iq ie he) (aa (O9 (n+1026) ip' iq') (aa ab (hpre ?_))))))));refine aa (z:=ag d) rfl (aa (z:=ag p) rfl (aa (z:=ag d) rfl (aa (Bw (n+1023) ip id hd) (aa (z:=ag e) rfl (aa (z:=ag q) rfl (aa (z:=ag e) rfl (aa (Bw (n+1023) iq ie he) ?_)))))));refine aa (qQ (n+1027) ir) (aa (qQ (n+1027) it) (aa ab (aa (z:=false) ?_ (aa ab ?_))))
    ·rw[xP,xP,decide_eq_false (by rw[jd];exact hr1),decide_eq_false (by rw[jd];exact hr2)];rfl
    ·exact t7 (aa (mK (a:=s) (by simp only[inR];omega)) rfl)
   ·rw[CW,Int.neg_mul_neg];exact hz
 ·right;have h0:ba (p/d) (q/e)≠0:=λh=>hne (yd.1 h);rw[<-IM hd he hne] at hz;refine⟨(0,[I (uf (some x) (some y))]),?_,rfl⟩;refine aa (z:=ag p) rfl (aa (z:=ag d) rfl (aa (uA (n+1023) ip id hd) (aa (z:=ag q) rfl (aa (z:=ag e) rfl (aa (uA (n+1023) iq ie he) (aa (O9 (n+1026) ip' iq') (aa ab ?_)))))));rw[xP,decide_eq_false h0];refine fm (aa (EC hs (ye _ _)) ?_);rw[hz]
end Sy
end
noncomputable section
namespace Sy
open Go Go.Proofs Geo
def ze(z:Int):gB (-z)=(gB z).map (λx=>-x):=by
 unfold gB;rw[zmc];split<;>rfl
def Ew(x y:Rat):CE (-x) (-y)=LD (CE x y):=by
 unfold CE;rw[Rat.neg_num,Rat.neg_num,Rat.neg_den,Rat.neg_den];simp only[lj,Int.neg_mul,ze];generalize gB (x.num*_)=A;generalize gB (y.num*_)=B;generalize gB (_*(y.den:Int))=C;cases A with
 | none=>cases C<;>rfl
 | some a=>
 cases B with
 | none=>cases C<;>rfl
 | some b=>
 simp only[t8,zkb];rw[show -a+-b=-(a+b) by omega,ze]
 generalize gB (a+b)=S;cases S with
 | none=>cases C<;>rfl
 | some t=>
 cases C with
 | none=>rfl
 | some c=>
 simp only[kH,zkb,LD];split
 ·rfl
 ·rw[zkb,Rat.neg_divInt]
def pI{u:V}(h:bd NB u):bd NB u.neg:=by simp only[bd,V.neg,NB] at *;omega
structure PairOk(x y:V)(q r:Nat->Int)(l m:List V):Prop where
 pa:PoseOk x q
 pb:PoseOk y r
 la:∀ v∈l,bd 4096 v
 lb:∀ v∈m,bd 4096 v
 na:0<l.length
 nb:0<m.length
 ka:l.length<=100
 kb:m.length<=100
def FD(u x y:V)(q r:Nat->Int)(l m:List V):Option Rat:=CE (-(fa u.neg y r m)) (-(fa u x q l))
def Nj(n:Nat){u x y:V}{q r:Nat->Int}{l m:List V}(h:PairOk x y q r l m)(hu:bd NB u):cA (n+1033) 434 [ac u,gE x q l,gE y r m]=some (bW (FD u x y q r l m)):=by
 rw[Vz];unfold Ib;have ra:=tq hu h.pa h.la h.na;have rb:=tq (pI hu) h.pb h.lb h.nb;refine aa (Ns (n+1031) hu (by decide)) (aa (KS (n+1) (pI hu) h.pb h.lb h.nb h.kb) (aa (KS (n+1) hu h.pa h.la h.na h.ka) ?_))
 refine aa (J3 (n+1) (a:=some (fa u.neg y r m)) (b:=some (fa u x q l)) (de rb) (de ra)) (aa (Nc (n+1) (Im _ _)) ?_);unfold FD;rw[Ew];rfl
def Ng(n:Nat){u x y:V}{q r:Nat->Int}{l m:List V}(h:PairOk x y q r l m)(hu:bd NB u):cA (n+1034) 419 [ac u,eV x q,cm l,eV y r,cm m]=some (bW (FD u x y q r l m)):=by
 rw[Vu];unfold H6;exact aa (ID (n+1029) h.pa h.la h.ka) (aa (ID (n+1029) h.pb h.lb h.kb) (aa (Nj n h hu) rfl))
end Sy
end
noncomputable section
namespace Sy
open Go Go.Proofs Geo
def jq(k:Int)(v:V):Bool:=(List.range 3).all λt=>rd k (kT v (0+t))
def vR{k:Int}{v:V}(h:jq k v=true):bd (k-1) v:=by
 simp[jq,rd,z1b,kT] at h;simp only[bd];omega
def LK{v:V}(h:jq 2305843009213693952 v=true):bd NB v:=vR h
def M8(n:Nat)(v:V):cA (n+1) 187 [ac v]=some (.bool (jq 2305843009213693952 v)):=by
 rw[Oe];delta Em qB qC qT qJ qZ iL iR Jn;refine m9 (r:=if jq 2305843009213693952 v then(1,[]) else(0,[.bool false])) (wQ (m:=3) (λi=>rd 2305843009213693952 (kT v i)) (λi hi=>?_) ?_ 3 0 rfl) ?_
 ·have hi':D.idx (I (i:Int)) 3=some i:=ap hi;refine aa ah (aa ab (az (by show(i:Int)<3;omega) ?_))
  have hx:=yw (v:=v) hi;refine aa hi' (aa hx (aa gh (aa ab ?_)));generalize kT v i=x at *;by_cases h1:x ≥ 2305843009213693952
  ·have e:rd 2305843009213693952 x=false:=by simp[rd];omega
   rw[decide_eq_true h1,e];exact aa (z:=true) rfl (aa ab rfl)
  ·rw[decide_eq_false h1];refine aa (z:=decide (x<=-2305843009213693952)) (t7 (aa hi' (aa hx (aa pZ ab)))) (aa ab ?_);by_cases h2:x<=-2305843009213693952
   ·have e:rd 2305843009213693952 x=false:=by simp[rd];omega
    rw[decide_eq_true h2,e];rfl
   ·have e:rd 2305843009213693952 x=true:=by simp[rd];omega
    rw[decide_eq_false h2,e];exact t7 (aa (a8 (a:=i) (b:=1) (by omega)) rfl)
 ·exact aa ah (aa ab (aG (by decide) rfl))
 ·cases jq 2305843009213693952 v<;>rfl
end Sy
end
noncomputable section
namespace Sy
open Go Go.Proofs Geo
def mJ(q:Nat->Int)(v:V):V:=⟨dG q v 0,dG q v 1,dG q v 2⟩
def MJ(F:FL):Prop:=F.length<=3000000/\∀ f∈F,bd 549755813888 f.1.1/\(f.1.2).natAbs<=281474976710656
def S7{v:V}(h:bd 549755813888 v):bd 1099511627776 v:=by simp only[bd] at *;omega
end Sy
end
noncomputable section
namespace Sy
open Go Go.Proofs Geo
def Br{A B:Int}{v:V}(h:bd A v)(hAB:A<=B):bd B v:=by simp only[bd] at *;omega
def C8{l:List V}(hl:∀ x∈l,bd 4096 x){m:V}{d:Int}(h:IsF (pt l) l.length m d):bd 549755813888 m/\d.natAbs<=281474976710656:=by
 obtain⟨i,j,k,h1,h2,h3,h4,h5,h6⟩:=h.ex;have hi:=hl _ (cu (show i<l.length by omega))
 have hj:=hl _ (cu (show j<l.length by omega))
 have hk:=hl _ (cu h3);have w1:bd 8192 (wy (pt l) i j):=ji hj hi;have w2:bd 8192 (wy (pt l) i k):=ji hk hi;have hp:=dT (gX w1 w2);have hm:bd 134217728 m:=by
  rcases h5 with rfl|rfl
  ·exact hp
  ·exact oW hp
 refine⟨Br hm (by decide),?_⟩
 have hd:=ED hm hi;rw[h6];show(V.dot m (pt l i)).natAbs<=_;have e:(3:Int)*(134217728*4096)=1649267441664:=rfl;rw[e] at hd;have hd':-1649267441664<=V.dot m (pt l i)/\V.dot m (pt l i)<=1649267441664:=hd;omega
end Sy
end
noncomputable section
namespace Sy
open Go Go.Proofs Geo
def Ni(n:Nat)(l:List V):∃ v:Bool,cA (n+10) 431 [cm l,I 10]=some (.bool v)/\(v=true->l.length<=10/\(∀ x∈l,bd 4096 x)/\Hul l):=by
 suffices h:∃ y,cA (n+10) 431 [cm l,I 10]=some y/\∃ v:Bool,y=.bool v/\(v=true->l.length<=10/\(∀ x∈l,bd 4096 x)/\Hul l) by
  obtain⟨y,h,v,rfl,k⟩:=h;exact⟨v,h,k⟩
 rw[Vx];delta H9 qB qC qT qY qM qP qZ iL iR Jn;refine av (z:=a7 l) rfl (av (z:=l.map ac) rfl (av cV (av ab ?_)));by_cases hlen:l.length>10
 ·exact iW (by rw[aL];omega) ⟨.bool false,rfl,false,rfl,λh=>by cases h⟩
 refine BK (by rw[aL];omega) ?_
 refine oo (λi s=>s=[I (i:Int)]/\∀ x∈l.take i,bd 4096 x) l.length 0 (zma _) ⟨rfl,by simp⟩ (λi hi s hJ=>?_) (λs hJ=>?_)
 ·obtain⟨rfl,hJ⟩:=hJ;refine av (z:=a7 l) rfl (av (z:=l.map ac) rfl (av ah (av ab (iW (by show(i:Int)<((l.map ac).length:Int);rw[aL];omega) ?_))))
  refine oo (λk s=>s=[I (k:Int)]/\∀ t,t<k->kT l[i] t<=4096/\-4096<=kT l[i] t) 3 0 (zma _) ⟨rfl,λt h=>by omega⟩ (λk hk s hK=>?_) (λs hK=>?_)
  ·obtain⟨rfl,hK⟩:=hK;have hg:Option.bind (D.get (cm l) [0]) (λx9=>Option.bind (D.asSl x9) λl10=>Option.bind (D.idx (I (i:Int)) l10.length) λi11=>l10[i11]?)=some (ac l[i]):=
    aa (z:=a7 l) rfl (aa (z:=l.map ac) rfl (aa (z:=i) (by rw[aL];exact ap hi) (Ff hi)))
   refine av ah (av ab (iW (by show(k:Int)<3;omega) ?_))
   refine av (z:=a7 l) rfl (av (z:=l.map ac) rfl (av (z:=i) (by rw[aL];exact ap hi) (av (Ff hi) (av (z:=k) (ap hk) (av (yp hk) (av cV (av ab ?_)))))))
   by_cases h1:kT l[i] k>4096
   ·refine av (z:=true) (by rw[decide_eq_true h1];rfl) (av (z:=true) rfl ⟨.inr (0,[.bool false]),rfl,.inr (0,[.bool false]),rfl,.bool false,rfl,false,rfl,λh=>by cases h⟩)
   ·refine av (z:=decide (kT l[i] k < -4096)) ?_ (av ab ?_)
    ·rw[decide_eq_false h1,if_neg (by decide)]
     exact aa (z:=a7 l) rfl (aa (z:=l.map ac) rfl (aa (z:=i) (by rw[aL];exact ap hi) (aa (Ff hi) (aa (z:=k) (ap hk) (aa (yp hk) (aa ah ab))))))
    ·by_cases h2:kT l[i] k < -4096
     ·exact iW h2 ⟨.inr (0,[.bool false]),rfl,.inr (0,[.bool false]),rfl,.bool false,rfl,false,rfl,λh=>by cases h⟩
     ·refine BK h2 ⟨.inl [I ((k+1:Nat):Int)],aa (a8 (a:=k) (b:=1) (by omega)) rfl,rfl,λt ht=>?_⟩
      by_cases e:t=k
      ·subst e;omega
      ·exact hK t (by omega)
  ·obtain⟨rfl,hK⟩:=hK;refine⟨.inr (1,[]),aa ah (aa ab (aG (by decide) rfl)),.inl [I ((i+1:Nat):Int)],?_,rfl,?_⟩
   ·rw[if_neg (by decide)]
    exact aa (a8 (a:=i) (b:=1) (by omega)) rfl
   ·rw[zxa hi];intro x hx;rcases List.mem_append.1 hx with hx|hx
    ·exact hJ x hx
    ·rw[zHa.1 hx];exact IN hK
 ·obtain⟨rfl,hJ⟩:=hJ;rw[z3a] at hJ;refine⟨.inr (1,[]),aa (z:=a7 l) rfl (aa (z:=l.map ac) rfl (aa ah (aa ab (aG (by show ¬ ((l.length:Int)<((l.map ac).length:Int));rw[aL];omega) rfl)))),?_⟩
  rcases To n (l:=l) (by omega) with⟨e,h1,h2⟩|⟨h1,h2⟩
  ·refine⟨.bool false,aa h1 ?_,false,rfl,λh=>by cases h⟩
   rw[xP,decide_eq_false h2]
  ·refine⟨.bool true,aa h1 ?_,true,rfl,λ_=>⟨by omega,hJ,h2⟩⟩
   rw[xP];rfl
def IC(n:Nat)(x:V)(q:Nat->Int):∃ v:Bool,cA (n+4) 427 [eV x q]=some (.bool v)/\(v=true->PoseOk x q):=by
 obtain⟨v,h1,h2⟩:=TC n q;refine⟨jq 140737488355328 x&&v,?_,λh=>by
  simp only[zaa] at h;exact⟨vR h.1,BX (h2 h.2).1,(h2 h.2).2⟩⟩
 rw[Vv];delta H7 qG qB qC qT qZ iL iR Jn;refine m9 (r:=if jq 140737488355328 x then(1,[]) else(0,[.bool false])) (wQ (m:=3) (λi=>rd 140737488355328 (kT x i)) (λi hi=>?_) ?_ 3 0 rfl) ?_
 ·have hi':D.idx (I (i:Int)) 3=some i:=ap hi;refine aa ah (aa ab (az (by show(i:Int)<3;omega) ?_))
  have hx:D.get (eV x q) [0,i]=some (I (kT x i)):=yw (v:=x) hi;refine aa hi' (aa hx (aa gh (aa ab ?_)));generalize kT x i=y at *;by_cases h1:y ≥ 140737488355328
  ·have e:rd 140737488355328 y=false:=by simp[rd];omega
   rw[decide_eq_true h1,e];exact aa (z:=true) rfl (aa ab rfl)
  ·rw[decide_eq_false h1];refine aa (z:=decide (y<=-140737488355328)) (t7 (aa hi' (aa hx (aa pZ ab)))) (aa ab ?_);by_cases h2:y<=-140737488355328
   ·have e:rd 140737488355328 y=false:=by simp[rd];omega
    rw[decide_eq_true h2,e];rfl
   ·have e:rd 140737488355328 y=true:=by simp[rd];omega
    rw[decide_eq_false h2,e];exact t7 (aa (a8 (a:=i) (b:=1) (by omega)) rfl)
 ·exact aa ah (aa ab (aG (by decide) rfl))
 ·cases jq 140737488355328 x with
  | false=>rfl
  | true=>exact aa h1 rfl
def Fj{l:List V}(h:Hul l):0<l.length:=by
 obtain⟨m,d,hF⟩:=h.ex;obtain⟨i,j,k,h1,h2,h3,_⟩:=hF.ex;omega
def TO(n:Nat)(x y:V)(q r:Nat->Int)(l m:List V):∃ v:Bool,cA (n+11) 414 [eV x q,cm l,eV y r,cm m]=some (.bool v)/\(v=true->PairOk x y q r l m/\Hul l/\Hul m):=by
 obtain⟨v1,h1,k1⟩:=IC (n+6) x q;obtain⟨v2,h2,k2⟩:=IC (n+6) y r;obtain⟨v3,h3,k3⟩:=Ni n l;obtain⟨v4,h4,k4⟩:=Ni n m;refine⟨v1&&v2&&v3&&v4,?_,λh=>?_⟩
 ·rw[Vs];delta H4 qT Jn;refine aa h1 (aa ab (aa (z:=v1&&v2) ?_ (aa ab (aa (z:=v1&&v2&&v3) ?_ (aa ab (aa (z:=v1&&v2&&v3&&v4) ?_ rfl))))))
  ·cases v1
   ·rfl
   ·exact fm (aa h2 rfl)
  ·cases (v1&&v2)
   ·rfl
   ·exact fm (aa h3 rfl)
  ·cases (v1&&v2&&v3)
   ·rfl
   ·exact fm (aa h4 rfl)
 ·simp only[zaa] at h;obtain⟨⟨⟨e1,e2⟩,e3⟩,e4⟩:=h;obtain⟨a1,a2,a3⟩:=k3 e3;obtain⟨b1,b2,b3⟩:=k4 e4;exact⟨⟨k1 e1,k2 e2,a2,b2,Fj a3,Fj b3,by omega,by omega⟩,a3,b3⟩
end Sy
end
noncomputable section
namespace Sy
open Go Go.Proofs Geo
def NT(b s:Bool)(f:Nat->Int):D:=.st [.bool b,.bool s,cp 16 f]
end Sy
end
noncomputable section
namespace Sy
open Go Go.Proofs Geo
structure RawR where
 b:Bool
 s:Bool
 f:Nat->Int
 c:Bool
 t:Bool
 g:Nat->Int
def RawR.enc(r:RawR):D:=.st [NT r.b r.s r.f,NT r.c r.t r.g]
def RawR.ok(r:RawR):Prop:=(∀ i,i<16->0<=r.f i/\r.f i<4294967296)/\∀ i,i<16->0<=r.g i/\r.g i<4294967296
end Sy
end
noncomputable section
namespace Sy
open Go Go.Proofs Geo
end Sy
end
noncomputable section
namespace Sy
open Go Go.Proofs Geo
def MP(a:Option Rat):D.beq (bW a) (bW a)=true:=by
 cases a with
 | some q=>exact JZ q
 | none=>
  show D.beq CH CH=true;unfold CH;show(D.beq rK rK&&(D.beq (ag 1) (ag 1)&&true))=true;rw[xQ];unfold rK;show((true&&(true&&(D.beq (LM 0) (LM 0)&&true)))&&(true&&true))=true;rw[Bs];rfl
def Uc{b c:Bool}{X:Option Bool}(h:X=some c):(if b=true then some true else X)=some (b||c):=by cases b<;>simp[h]
end Sy
end
noncomputable section
namespace Sy
open Go Go.Proofs Geo
def xY(k:Nat)(f:Nat)(xs:List D):Option D:=if f=415 then LI 415 xs else cA k f xs
def EP(k:Nat):gw Tryz.prog (xY k):=by
 intro f ptys rty xs y hs hy hw;unfold xY at hy;split at hy
 ·rename_i hf;exact Jz f ptys rty xs y hs (by rw[hf];exact hy) hw
 ·exact xX sZ k f ptys rty xs y hs hy hw
def GO{d:D}(h:wt K1 d):∃ v:V,d=ac v:=by
 obtain⟨l,rfl,hl,h⟩:=h
 match l,hl with
 | [a,b,c],_=>
  obtain⟨x,rfl⟩:=h a (by simp)
  obtain⟨y,rfl⟩:=h b (by simp)
  obtain⟨z,rfl⟩:=h c (by simp)
  exact⟨⟨x,y,z⟩,rfl⟩
def JT{α:Type}{t:Ty}{e:α->D}(he:∀ d,wt t d->∃ v,d=e v){d:D}(h:wt (.sl t) d):∃ l:List α,d=.sl (l.map e):=by
 obtain⟨l,rfl,h⟩:=h;have key:∀ l:List D,(∀ x∈l,wt t x)->∃ m:List α,l=m.map e:=by
  intro l
  induction l with
  | nil=>intro _;exact⟨[],rfl⟩
  | cons x l ih=>
   intro h;obtain⟨v,rfl⟩:=he x (h x (by simp))
   obtain⟨m,rfl⟩:=ih λy hy=>h y (by simp[hy])
   exact⟨v::m,rfl⟩
 obtain⟨m,rfl⟩:=key l h;exact⟨m,rfl⟩
def Kt{d:D}(h:wt K3 d):∃ l:List V,d=cm l:=by
 obtain⟨l,rfl,d,l',rfl,h1,h2⟩:=h;have h2':l'=[]:=h2;subst h2';obtain⟨m,rfl⟩:=JT (e:=ac) (λd h=>GO h) h1;exact⟨m,rfl⟩
def LY{d:D}(h:wt pY d):∃ q:Nat->Int,d=kF q:=by
 obtain⟨l,rfl,hl,h⟩:=h
 match l,hl with
 | [a,b,c,e],_=>
  obtain⟨x,rfl⟩:=h a (by simp)
  obtain⟨y,rfl⟩:=h b (by simp)
  obtain⟨z,rfl⟩:=h c (by simp)
  obtain⟨w,rfl⟩:=h e (by simp)
  exact⟨λi=>[x,y,z,w].getD i 0,rfl⟩
def GP{d:D}(h:wt cG d):∃ (x:V) (q:Nat->Int),d=eV x q:=by
 obtain⟨l,rfl,d1,l1,rfl,h1,d2,l2,rfl,h2,h5⟩:=h;have h5':l2=[]:=h5;subst h5';obtain⟨v,rfl⟩:=GO h1;obtain⟨q,rfl⟩:=LY h2;exact⟨v,q,rfl⟩
end Sy
end
noncomputable section
namespace Sy
open Go Go.Proofs Geo
def Sz(a b:Nat)(x:Rat):Prop:=x.num.natAbs<=2^a/\x.den<=2^b
def Sz.up{a b c d:Nat}{x:Rat}(h:Sz a b x)(h1:a<=c)(h2:b<=d):Sz c d x:=
 ⟨zDa h.1 (zsa (by decide) h1),zDa h.2 (zsa (by decide) h2)⟩
def Sz.neg{a b:Nat}{x:Rat}(h:Sz a b x):Sz a b (-x):=⟨by rw[Rat.neg_num,zmc];exact h.1,h.2⟩
def oV{a b:Nat}{x d:Int}(hx:x.natAbs<=2^a)(hd:d.natAbs<=2^b)(h0:d≠0):Sz a b (Rat.divInt x d):=by
 obtain⟨h1,h2⟩:=lN x h0;exact⟨zDa h1 hx,zDa h2 hd⟩
def Sz.add{a b c d k:Nat}{x y:Rat}(hx:Sz a b x)(hy:Sz c d y)(h1:a+d<k)(h2:c+b<k):Sz k (b+d) (x+y):=by
 have e:x+y=Rat.divInt (x.num*(y.den:Int)+y.num*(x.den:Int)) ((x.den:Int)*y.den):=by
  conv=>lhs;rw[<-zsb x,<-zsb y]
  rw[zqd _ _ (cl x) (cl y)]
 rw[e];refine oV ?_ ?_ (zud (cl x) (cl y))
 ·have m1:=bD (k:=k-1) hx.1 hy.2 (by omega)
  have m2:=bD (k:=k-1) hy.1 hx.2 (by omega)
  have:=zEc (x.num*(y.den:Int)) (y.num*(x.den:Int));rw[zLa,zLa,zqa,zqa] at this;have e2:2^k=2^(k-1)+2^(k-1):=by rw[<-Nat.two_mul,<-Nat.pow_succ'];congr 1;omega
  omega
 ·rw[<-zVa,zqa];exact bD hx.2 hy.2 (zha _)
def Sz.mul{a b c d:Nat}{x y:Rat}(hx:Sz a b x)(hy:Sz c d y):Sz (a+c) (b+d) (x*y):=by
 have e:x*y=Rat.divInt (x.num*y.num) ((x.den:Int)*y.den):=by
  conv=>lhs;rw[<-zsb x,<-zsb y]
  rw[zWc]
 rw[e];refine oV ?_ ?_ (zud (cl x) (cl y))
 ·rw[zLa];exact bD hx.1 hy.1 (zha _)
 ·rw[<-zVa,zqa];exact bD hx.2 hy.2 (zha _)
def B0{x k:Nat}(h:x<=2^k)(hk:k<=511):x<dJ:=by
 have:=aT.1 (gV (x:=(x:Int)) hk (by rw[zqa];exact h))
 rwa [zqa] at this
theorem Sz.InR{a b:Nat}{x:Rat}(h:Sz a b x)(ha:a<=511)(hb:b<=511):InR x:=⟨gV ha h.1,gV hb (by rw[zqa];exact h.2)⟩
theorem Sz.addW{a b c d:Nat}{x y:Rat}(hx:Sz a b x)(hy:Sz c d y)(h1:a+d<511)(h2:c+b<511)(h3:b+d<=511):addW (some x) (some y)=some (x+y):=by
 refine Ey ⟨?_,?_⟩
 ·obtain⟨k,hk⟩:∃ k,k=510:=⟨_,rfl⟩;have m1:=bD (k:=k) hx.1 hy.2 (by omega)
  have m2:=bD (k:=k) hy.1 hx.2 (by omega)
  refine B0 (k:=k+1) ?_ (by omega)
  rw[zjb];omega
 ·exact B0 (bD hx.2 hy.2 (zha _)) h3
theorem Sz.mulW{a b c d:Nat}{x y:Rat}(hx:Sz a b x)(hy:Sz c d y)(h1:a+c<=511)(h2:b+d<=511):mulW (some x) (some y)=some (x*y):=
 FJ ⟨B0 (bD hx.1 hy.1 (zha _)) h1,B0 (bD hx.2 hy.2 (zha _)) h2⟩
def S4{k:Nat}{x:Int}(h:x.natAbs<=2^k):Sz k 0 (x:Rat):=⟨by simpa using h,by simp⟩
def nT{u v:V}(hu:bd NB u)(hv:bd PB v):(V.dot u v).natAbs<=2^125:=by
 obtain⟨h1,h2,h3⟩:=uK hu hv;have e1:=zEc (u.x*v.x) (u.y*v.y);have e2:=zEc (u.x*v.x+u.y*v.y) (u.z*v.z);unfold V.dot;omega
theorem B9{u:V}{L:List V}(hu:bd NB u)(hL:∀ v∈L,bd PB v):∀ k,k<L.length->(y6 u L k).natAbs<=2^125
 | 0,h=>nT hu (hL _ (jp h))
 | k+1,h=>by
  unfold y6;split
  ·exact nT hu (hL _ (jp h))
  ·exact B9 hu hL k (by omega)
def Cn{x:V}{q:Nat->Int}(h:PoseOk x q):(eC q).natAbs<=2^14/\eC q≠0:=by
 have:=xp h.hq h.h0;exact⟨by rw[show(2:Nat)^14=16384 from rfl];omega,by omega⟩
def jK{u x:V}{q:Nat->Int}(hu:bd NB u)(h:PoseOk x q){l:List V}(hl:∀ v∈l,bd 4096 v)(h0:0<l.length):Sz 125 14 (fa u x q l):=
 oV (B9 hu (xd h hl) _ (by simp;omega)) (Cn h).1 (Cn h).2
def dM(u x y:V)(q r:Nat->Int)(l m:List V):Rat:=-(fa u.neg y r m)+-(fa u x q l)
def yR{u x y:V}{q r:Nat->Int}{l m:List V}(h:PairOk x y q r l m)(hu:bd NB u):FD u x y q r l m=some (dM u x y q r l m):=
 (jK (pI hu) h.pb h.lb h.nb).neg.addW (jK hu h.pa h.la h.na).neg (by decide) (by decide) (by decide)
def ld{u x y:V}{q r:Nat->Int}{l m:List V}(h:PairOk x y q r l m)(hu:bd NB u):Sz 140 28 (dM u x y q r l m):=
 (jK (pI hu) h.pb h.lb h.nb).neg.add (jK hu h.pa h.la h.na).neg (by decide) (by decide)
def gc(u x y:V)(q r:Nat->Int)(l m:List V):Rat:=dM u x y q r l m*dM u x y q r l m*Rat.divInt 1 (V.dot u u)
def nH{u:V}(hu:bd NB u):bd PB u:=by simp only[bd,NB,PB] at *;omega
def BG{u:V}(h:u≠V.zero):0<V.dot u u:=by
 have key:∀ a:Int,0<=a*a/\(a≠0->0<a*a):=λa=>by
  rcases zGb a 0 with k|k|k
  ·have:=zYb k k;omega
  ·subst k;simp
  ·have:=zrb k k;omega
 obtain⟨x,y,z⟩:=u;have hx:=key x;have hy:=key y;have hz:=key z;show 0<x*x+y*y+z*z;by_cases h1:x=0
 ·by_cases h2:y=0
  ·by_cases h3:z=0
   ·subst h1 h2 h3;exact absurd rfl h
   ·have:=hz.2 h3;omega
  ·have:=hy.2 h2;omega
 ·have:=hx.2 h1;omega
def div_one(x:Int):Rat.divInt x 1=(x:Rat):=by
 have h:=zsb (x:Rat)
 rwa [Rat.num_intCast,Rat.den_intCast] at h
def E0{a:Option Rat}{x:Int}(h:x≠0):wB a (some (x:Rat))=mulW a (some (Rat.divInt 1 x)):=by
 simp only[wB,Option.elim];rw[Rat.num_intCast,Rat.den_intCast,wU h];rfl
def Oi{u x y:V}{q r:Nat->Int}{l m:List V}(h:PairOk x y q r l m)(hu:bd NB u)(h0:u≠V.zero) :
  mulW (some (dM u x y q r l m)) (some (dM u x y q r l m))=some (dM u x y q r l m*dM u x y q r l m)/\wB (some (dM u x y q r l m*dM u x y q r l m)) (some (V.dot u u:Rat))=some (gc u x y q r l m):=by
 have s:=ld h hu;have d0:=BG h0;refine⟨s.mulW s (by decide) (by decide),?_⟩
 rw[E0 (by omega)]
 have sd:Sz 0 125 (Rat.divInt 1 (V.dot u u)):=oV (by decide) (nT hu (nH hu)) (by omega)
 exact(s.mul s).mulW sd (by decide) (by decide)
def GG{u x y:V}{q r:Nat->Int}{l m:List V}(h:PairOk x y q r l m)(hu:bd NB u)(h0:u≠V.zero):Sz 280 181 (gc u x y q r l m):=
 ((ld h hu).mul (ld h hu)).mul (oV (a:=0) (b:=125) (by decide) (nT hu (nH hu)) (by have:=BG h0;omega))
def zT(u x y:V)(q r:Nat->Int)(l m:List V):Rat:=fa u x q l+dM u x y q r l m*Rat.divInt 1 2
def wh:Sz 0 1 (Rat.divInt 1 2):=oV (by decide) (by decide) (by decide)
def T2{u x y:V}{q r:Nat->Int}{l m:List V}(h:PairOk x y q r l m)(hu:bd NB u) :
  addW (some (fa u x q l)) (wB (some (dM u x y q r l m)) (some ((2:Int):Rat)))=some (zT u x y q r l m):=by
 have e:wB (some (dM u x y q r l m)) (some ((2:Int):Rat))=some (dM u x y q r l m*Rat.divInt 1 2):=by
  rw[E0 (by decide)]
  exact(ld h hu).mulW wh (by decide) (by decide)
 rw[e];exact(jK hu h.pa h.la h.na).addW ((ld h hu).mul wh) (by decide) (by decide) (by decide)
def E3{u x y:V}{q r:Nat->Int}{l m:List V}(h:PairOk x y q r l m)(hu:bd NB u):Sz 155 43 (zT u x y q r l m):=
 (jK hu h.pa h.la h.na).add ((ld h hu).mul wh) (by decide) (by decide)
def IQ(x y:Rat):uf (some x) (some y)=if x<y then -1 else if y<x then 1 else 0:=by
 show ba (x.num*(y.den:Int)) (y.num*(x.den:Int))=_;unfold ba;simp only[gt_iff_lt,<-Rat.lt_iff]
def KX(x y:Rat):decide (uf (some x) (some y)>0)=decide (y<x):=by
 rw[IQ];by_cases h1:x<y
 ·have:¬ y<x:=Rat.not_lt.2 (Rat.le_of_lt h1);simp[h1,this]
 ·by_cases h2:y<x<;>simp[h1,h2]
def Nt(x y:Rat):decide (uf (some x) (some y)<=0)=!decide (y<x):=by
 rw[<-KX,z7c];simp
def LJ(x:Rat):decide (NV (some x)<0)=decide (x<0):=by
 have h:x<0↔x.num<0:=by
  rw[Rat.lt_iff];simp
 rw[z7c,decide_eq_true_eq,decide_eq_true_eq,h];exact Co
def zM{q:Nat->Int}(h:zX q){k:Nat}{v:V}(hv:bd (k:Int) v):bd ((49152*k:Nat):Int) (mJ q v):=by
 have key:∀ (i:Nat) (x:Int),(-(k:Int)<=x/\x<=k)->(il q i*x).natAbs<=16384*k:=λi x hx=>by
  have:=gK h i;rw[zLa];exact z2a (by omega) (by omega)
 have:∀ i,(dG q v i).natAbs<=49152*k:=λi=>by
  have a:=key (3*i) _ hv.1;have b:=key (3*i+1) _ hv.2.1;have c:=key (3*i+2) _ hv.2.2;unfold dG;omega
 have t0:=this 0;have t1:=this 1;have t2:=this 2;simp only[bd,mJ];omega
end Sy
end
noncomputable section
namespace Sy
open Go Go.Proofs Geo
def wZ{a b:Int}(ha:a.natAbs<=402653184)(hb:b.natAbs<=402653184):(a*b).natAbs<=162129586585337856:=by
 rw[zLa];exact z2a ha hb
def uI{u v:V}(hu:bd 402653184 u)(hv:bd 402653184 v):bd NB (V.cross u v):=by
 obtain⟨u1,u2,u3⟩:=mO (k:=402653184) hu;obtain⟨v1,v2,v3⟩:=mO (k:=402653184) hv;have a1:=wZ u2 v3;have a2:=wZ u3 v2;have a3:=wZ u3 v1;have a4:=wZ u1 v3;have a5:=wZ u1 v2;have a6:=wZ u2 v1;unfold bd NB;simp only[V.cross];omega
def Tz(n:Nat){x y:Int}(hx:In x)(hy:In y)(h:In (x-y)):cA (n+5) 203 [ag x,ag y]=some (ag (x-y)):=by
 rw[Of];unfold En;refine aa (TW (n+1) (a:=some y) (aY hy)) (aa (z:=ag (x-y)) ?_ rfl);have:=EN n (x:=x) (y:=-y) hx (aT.2 (by rw[zmc];exact aT.1 hy)) (by rw[<-Int.sub_eq_add_neg];exact h)
 rwa [<-Int.sub_eq_add_neg] at this
def TR(n:Nat){u v:V}(hu:bd 402653184 u)(hv:bd 402653184 v):cA (n+7) 450 [ac u,ac v]=some (fF (V.cross u v)):=by
 obtain⟨u1,u2,u3⟩:=mO (k:=402653184) hu;obtain⟨v1,v2,v3⟩:=mO (k:=402653184) hv;have iw:∀ {x:Int},x.natAbs<=402653184->inR x:=λ{x} h=>by simp only[inR];omega
 have im:∀ {a b:Int},a.natAbs<=402653184->b.natAbs<=402653184->In (a*b):=λha hb=>by
  have:=wZ ha hb;exact bG (by simp only[inR];omega)
 have is:∀ {a b c d:Int},a.natAbs<=402653184->b.natAbs<=402653184->c.natAbs<=402653184->d.natAbs<=402653184->In (a*b-c*d):=λha hb hc hd=>by
  have:=wZ ha hb;have:=wZ hc hd;exact bG (by simp only[inR];omega)
 have stp:∀ {a b c d:Int},a.natAbs<=402653184->b.natAbs<=402653184->c.natAbs<=402653184->d.natAbs<=402653184->cA (n+5) 61 [ag a,ag b]=some (ag (a*b))/\cA (n+5) 61 [ag c,ag d]=some (ag (c*d))/\cA (n+5) 203 [ag (a*b),ag (c*d)]=some (ag (a*b-c*d)):=λha hb hc hd=>
  ⟨EW (n+2) (bG (iw ha)) (bG (iw hb)) (im ha hb),EW (n+2) (bG (iw hc)) (bG (iw hd)) (im hc hd),Tz n (im ha hb) (im hc hd) (is ha hb hc hd)⟩
 rw[VE];unfold Ig;refine aa (IA (n+3) (iw u1) (iw u2) (iw u3)) (aa (IA (n+3) (iw v1) (iw v2) (iw v3)) (aa (z:=fF (V.cross u v)) ?_ rfl));rw[VF];delta Ih qB qC qJ qZ iL iR Jn;obtain⟨Z,hZ⟩:∃ Z,(D.st [(D.bool false),(D.bool false),(ar aQ)])=Z:=⟨_,rfl⟩;rw[hZ];obtain⟨a1,a2,a3⟩:=stp u2 v3 u3 v2;obtain⟨b1,b2,b3⟩:=stp u3 v1 u1 v3;obtain⟨d1,d2,d3⟩:=stp u1 v2 u2 v1;refine aU (s':=[I 1,.st [ag (V.cross u v).x,Z,Z]]) ?_ (aU (s':=[I 2,.st [ag (V.cross u v).x,ag (V.cross u v).y,Z]]) ?_ (aU (s':=[I 3,fF (V.cross u v)]) ?_ (dD (r:=(0,[fF (V.cross u v)])) ?_ rfl)))
 ·refine aa (z:=.bool true) rfl (aa (z:=true) rfl (fm (aa (z:=I 1) rfl (aa (z:=I 1) rfl (aa (z:=I 2) rfl (aa (z:=I 2) rfl ?_))))));refine aa (z:=1) rfl (aa (z:=ag u.y) rfl (aa (z:=2) rfl (aa (z:=ag v.z) rfl (aa a1 ?_))));refine aa (z:=2) rfl (aa (z:=ag u.z) rfl (aa (z:=1) rfl (aa (z:=ag v.y) rfl (aa a2 (aa a3 ?_)))));exact aa (z:=0) rfl (aa (z:=.st [ag (V.cross u v).x,Z,Z]) rfl (aa (z:=I 1) rfl rfl))
 ·refine aa (z:=.bool true) rfl (aa (z:=true) rfl (fm (aa (z:=I 2) rfl (aa (z:=I 2) rfl (aa (z:=I 3) rfl (aa (z:=I 0) rfl ?_))))));refine aa (z:=2) rfl (aa (z:=ag u.z) rfl (aa (z:=0) rfl (aa (z:=ag v.x) rfl (aa b1 ?_))));refine aa (z:=0) rfl (aa (z:=ag u.x) rfl (aa (z:=2) rfl (aa (z:=ag v.z) rfl (aa b2 (aa b3 ?_)))));exact aa (z:=1) rfl (aa (z:=.st [ag (V.cross u v).x,ag (V.cross u v).y,Z]) rfl (aa (z:=I 2) rfl rfl))
 ·refine aa (z:=.bool true) rfl (aa (z:=true) rfl (fm (aa (z:=I 3) rfl (aa (z:=I 0) rfl (aa (z:=I 4) rfl (aa (z:=I 1) rfl ?_))))));refine aa (z:=0) rfl (aa (z:=ag u.x) rfl (aa (z:=1) rfl (aa (z:=ag v.y) rfl (aa d1 ?_))));refine aa (z:=1) rfl (aa (z:=ag u.y) rfl (aa (z:=0) rfl (aa (z:=ag v.x) rfl (aa d2 (aa d3 ?_)))));exact aa (z:=2) rfl (aa (z:=fF (V.cross u v)) rfl (aa (z:=I 3) rfl rfl))
 ·exact aa (z:=.bool false) rfl (aa (z:=false) rfl rfl)
def TP(n:Nat){v:V}(h1:inR v.x)(h2:inR v.y)(h3:inR v.z):cA (n+3) 448 [ac v]=some (fF v):=by
 rw[VC];delta Ie qG;exact aa (mW v) (aa (xW n h1) (aa (mX v) (aa (xW n h2) (aa (mY v) (aa (xW n h3) rfl)))))
def Nk(n:Nat){v:V}(hv:bd NB v):cA (n+1030) 447 [fF v]=some (.tup [ac (aE v),I (if v=V.zero then 31 else 0)]):=by
 obtain⟨h1,h2,h3⟩:=wL hv;have i0:In 0:=bG (ib 0);have ix:In v.x:=bG h1;have iy:In v.y:=bG h2;have iz:In v.z:=bG h3;have ig:∀ {x y:Int},In x->In (Nat.gcd x.natAbs y.natAbs:Nat)\/x=0:=λ{x y} hx=>by
  by_cases h:x=0
  ·exact .inr h
  ·left;rw[aT,zqa];exact zKa (Nat.le_of_dvd (by omega) (zbb _ _)) (aT.1 hx)
 have g01:=CN n i0 ix;rw[show(Nat.gcd (0:Int).natAbs v.x.natAbs)=v.x.natAbs by simp] at g01
 have ixx:In (v.x.natAbs:Nat):=by rw[aT,zqa];exact aT.1 ix
 have g02:=CN n ixx iy;rw[show(Nat.gcd ((v.x.natAbs:Nat):Int).natAbs v.y.natAbs)=Nat.gcd v.x.natAbs v.y.natAbs by simp] at g02
 have i2:In (Nat.gcd v.x.natAbs v.y.natAbs:Nat):=by
  rcases ig ix (y:=v.y) with h|h
  ·exact h
  ·rw[h,aT,zqa];simpa using aT.1 iy
 have g03:=CN n i2 iz;rw[show(Nat.gcd ((Nat.gcd v.x.natAbs v.y.natAbs:Nat):Int).natAbs v.z.natAbs)=be v by simp[be]] at g03
 have i3:In (be v:Nat):=by
  by_cases h:Nat.gcd v.x.natAbs v.y.natAbs=0
  ·unfold be;rw[h,aT,zqa];simpa using aT.1 iz
  ·rw[aT,zqa];exact zKa (Nat.le_of_dvd (by omega) (zbb _ _)) (by simpa using aT.1 i2)
 rw[VB];delta Id qG qB qC qT qN qZ iL iR Jn;refine aa (xW (n+1027) (ib 0)) ?_;refine aU (s':=[I 1,ag (v.x.natAbs:Nat)]) (aa ah (aa ab (az (by decide) (aa Ft (aa (z:=ag v.x) rfl (aa g01 (aa (aq Ke) rfl))))))) ?_
 refine aU (s':=[I 2,ag (Nat.gcd v.x.natAbs v.y.natAbs:Nat)]) (aa ah (aa ab (az (by decide) (aa Fu (aa (z:=ag v.y) rfl (aa g02 (aa (aq rq) rfl))))))) ?_
 refine aU (s':=[I 3,ag (be v:Nat)]) (aa ah (aa ab (az (by decide) (aa Fv (aa (z:=ag v.z) rfl (aa g03 (aa (aq Kf) rfl))))))) ?_
 refine dD (r:=(0,[ag (be v:Nat)])) (aa ah (aa ab (aG (by decide) rfl))) ?_
 refine aa (z:=.bool false) rfl (aa ab (t7 (aa (qQ (n+1026) i3) ?_)));by_cases hz:be v=0
 ·have hv0:v=V.zero:=by
   by_cases h:v=V.zero
   ·exact h
   ·have:=g9 h;omega
  rw[hz,if_pos hv0,hv0];exact aa (z:=true) rfl (fm rfl)
 ·rw[if_neg (λh=>hz (by rw[h];rfl)),fW (show(0:Int)<be v by omega)]
  refine aa (z:=false) rfl (t7 ?_);have hg0:(be v:Int)≠0:=by omega
  have z1:=Ac (n+1023) ix i3 hg0 (uL v);have z2:=Ac (n+1023) iy i3 hg0 (uM v);have z3:=Ac (n+1023) iz i3 hg0 (uN v);obtain⟨p1,p2,p3⟩:=dT hv;have sm:∀ {x:Int},-NB<=x/\x<=NB->cA (n+1029) 202 [ag x]=some (.tup [I x,.bool true]):=λ{x} h=>by
   have hr:inR x:=by simp only[NB] at h;simp only[inR];omega
   rcases wl (n+1025) (bG hr) with⟨_,h⟩|⟨h,_⟩
   ·exact h
   ·exact absurd hr h
  have tst:∀ {x:Int} {α:Type} {A B y:Option α},-NB<=x/\x<=NB->B=y->(Option.bind (if(false:Bool)=true then some true else Option.bind (D.bin .geq (I x) (D.int .i64 2305843009213693952)) λx25=>D.truth x25) λb26=>Option.bind (D.truth (D.bool b26)) λb27=>Option.bind (if b27=true then some true else Option.bind (D.bin .leq (I x) (D.int .i64 (-2305843009213693952))) λx28=>D.truth x28) λb29=>Option.bind (D.truth (D.bool b29)) λb30=>if b30=true then A else B)=y:=λ{x α A B y} h hB=>by
   simp only[NB] at h;subst hB;rw[if_neg (by decide),show D.bin .geq (I x) (D.int .i64 2305843009213693952)=some (.bool (decide (x ≥ 2305843009213693952))) from gh,show D.bin .leq (I x) (D.int .i64 (-2305843009213693952))=some (.bool (decide (x<=-2305843009213693952))) from pZ,decide_eq_false (by omega),decide_eq_false (by omega)]
   rfl
  refine aU (s':=[I 1,ac V.zero,ac ⟨v.x/(be v:Nat),0,0⟩]) ?_ (aU (s':=[I 2,ac V.zero,ac ⟨v.x/(be v:Nat),v.y/(be v:Nat),0⟩]) ?_ (aU (s':=[I 3,ac V.zero,ac (aE v)]) ?_ (dD (r:=(1,[ac V.zero,ac (aE v)])) (aa ah (aa ab (aG (by decide) rfl))) rfl)))
  ·refine aa ah (aa ab (az (by decide) (aa Ft (aa (z:=ag v.x) rfl (aa z1 (aa (sm p1) (aa (z:=I (v.x/(be v:Nat))) rfl (aa (z:=.bool true) rfl (aa aP (aa ab (tst p1 ?_)))))))))))
   exact aa Ft (aa (z:=ac ⟨v.x/(be v:Nat),0,0⟩) rfl (aa (aq Ke) rfl))
  ·refine aa ah (aa ab (az (by decide) (aa Fu (aa (z:=ag v.y) rfl (aa z2 (aa (sm p2) (aa (z:=I (v.y/(be v:Nat))) rfl (aa (z:=.bool true) rfl (aa aP (aa ab (tst p2 ?_)))))))))))
   exact aa Fu (aa (z:=ac ⟨v.x/(be v:Nat),v.y/(be v:Nat),0⟩) rfl (aa (aq rq) rfl))
  ·refine aa ah (aa ab (az (by decide) (aa Fv (aa (z:=ag v.z) rfl (aa z3 (aa (sm p3) (aa (z:=I (v.z/(be v:Nat))) rfl (aa (z:=.bool true) rfl (aa aP (aa ab (tst p3 ?_)))))))))))
   exact aa Fv (aa (z:=ac (aE v)) rfl (aa (aq Kf) rfl))
end Sy
end
noncomputable section
namespace Sy
open Go Go.Proofs Geo
theorem KnF.eq{l:List V}{F G:FL}(hs:Ev l)(h:KnF l l.length 0 0 F)(k:KnF l l.length 0 0 G):F=G:=by
 have e:F.map Prod.fst=G.map Prod.fst:=Facets.eq h.facets k.facets;have el:F.length=G.length:=by have:=congrArg List.length e;simpa using this
 refine List.ext_getElem el λi h1 h2=>?_;have e1:F[i].1=G[i].1:=by
  have h3:(F.map Prod.fst)[i]?=(G.map Prod.fst)[i]?:=by rw[e]
  simpa [z8a,zda h1,zda h2] using h3
 obtain⟨a1,a2⟩:=h.fok.ok F[i] (zIa h1);obtain⟨b1,b2⟩:=k.fok.ok G[i] (zIa h2);rw[<-e1] at b2;exact Prod.ext e1 (bz.eq hs a1 a2 b2)
structure Fac(l:List V)(F:FL)(E:List (Nat×Nat)):Prop where
 kn:KnF l l.length 0 0 F
 fb:MJ F
 e:E=kE F l.length l.length
 el:E.length<=10000
 lt:∀ e∈E,e.1<l.length/\e.2<l.length
 h18:∀ m,cA (m+8) 18 [cm l]=some (.sl (aK F))
 h19:∀ m,cA (m+8) 19 [cm l]=some (.sl (aK F))
 h21:∀ m,cA (m+9) 21 [cm l]=some (.sl (E.map cR))
 h22:∀ m,cA (m+9) 22 [cm l]=some (.sl (E.map cR))
def J1{l:List V}(hl:∀ x∈l,bd 4096 x)(hlen:l.length<=64)(hs:Ev l):∃ F E,Fac l F E:=by
 have hl':∀ x∈l,bd MV x:=λx hx=>Br (hl x hx) (by decide)
 obtain⟨F,E,f1,f2,f3,_,_,_,_,f4⟩:=MS 0 hl' (show l.length<=100 by omega) hs
 have all:∀ m,cA (m+8) 18 [cm l]=some (.sl (aK F))/\cA (m+8) 19 [cm l]=some (.sl (aK F))/\cA (m+9) 21 [cm l]=some (.sl (E.map cR))/\cA (m+9) 22 [cm l]=some (.sl (E.map cR)):=λm=>by
  obtain⟨F',E',g1,g2,g3,g5,g6,g7,g8,g4⟩:=MS m hl' (show l.length<=100 by omega) hs
  have:=f3.eq hs g3;subst this;rw[f4,<-g4];exact⟨g5,g6,g7,g8⟩
 refine⟨F,E,f3,⟨zDa f1 (by decide),λf hf=>C8 hl (f3.fok.ok f hf).1⟩,f4,f2,λe he=>?_,λm=>(all m).1,λm=>(all m).2.1,λm=>(all m).2.2.1,λm=>(all m).2.2.2⟩
 rw[f4] at he;have:=yS.1 he;exact⟨this.1,this.2.1⟩
def mE(q:Nat->Int)(l:List V)(e:Nat×Nat):V:=mJ q ((pt l e.2).sub (pt l e.1))
def zH{l:List V}(hl:∀ x∈l,bd 4096 x){i j:Nat}(hi:i<l.length)(hj:j<l.length):bd 8192 ((pt l j).sub (pt l i)):=ji (hl _ (jp hj)) (hl _ (jp hi))
def wC{q:Nat->Int}(h:zX q){l:List V}(hl:∀ x∈l,bd 4096 x){e:Nat×Nat}(he:e.1<l.length/\e.2<l.length):bd 402653184 (mE q l e):=zM (k:=8192) h (zH hl he.1 he.2)
def NY{α:Type}{E:List α}(g:α->D){i:Nat}(hi:i<E.length):((E.take i).map g)++[g E[i]]=(E.take (i+1)).map g:=by
 rw[List.take_add_one,zda hi];simp only[Option.toList_some,z3b,z4a,zbd]
def T8{E:List (Nat×Nat)}{i:Nat}(hi:i<E.length):(E.map cR)[i]?=some (cR E[i]):=by simp[hi]
def Nl(n:Nat){x:V}{q:Nat->Int}(h:PoseOk x q){l:List V}(hl:∀ v∈l,bd 4096 v){F:FL}{E:List (Nat×Nat)}(hF:Fac l F E):cA (n+10) 449 [gE x q l]=some (.sl (E.map λe=>ac (mE q l e))):=by
 rw[VD];delta If qG qB qC qS qX qV qW qZ iL iR Jn;refine aa (z:=cm l) rfl (aa (hF.h21 n) (aa (z:=E.map cR) rfl ?_));refine bZ (λi s=>s=[.sl ((E.take i).map λe=>ac (mE q l e)),I (i:Int)]) E.length 0 (zma _) rfl (λi hi s hj=>?_) (λs hj=>?_)
 ·subst hj;left;obtain⟨h1,h2⟩:=hF.lt E[i] (zIa hi);have hEl:=hF.el;refine⟨_,?_,rfl⟩;rw[<-NY (λe=>ac (mE q l e)) hi];refine aa ah (aa ab (az (by rw[ox];omega) ?_))
  refine aa (z:=E.map cR) rfl (aa (z:=i) (by rw[ox];exact ap hi) (aa (T8 hi) ?_))
  refine aa (z:=kF q) rfl (aa (z:=a7 l) rfl (aa (z:=I (E[i].2:Int)) rfl (aa (z:=l.map ac) rfl (aa (z:=E[i].2) (by rw[aL];exact ap h2) (aa (xe h2) ?_)))))
  refine aa (z:=a7 l) rfl (aa (z:=I (E[i].1:Int)) rfl (aa (z:=l.map ac) rfl (aa (z:=E[i].1) (by rw[aL];exact ap h1) (aa (xe h1) ?_))))
  refine aa (EH (n+7) (hl _ (jp h2)) (hl _ (jp h1)) (by decide)) (aa (z:=ac (mE q l E[i])) (J6 (n+6) h.hq (Br (zH hl h1 h2) (by decide))) ?_)
  obtain⟨L,hL⟩:∃ L,((E.take i).map λe=>ac (mE q l e))=L:=⟨_,rfl⟩;rw[hL];have hn:List.length (D.els (.sl L))+List.length [ac (mE q l E[i])]<=1073741824:=by
   rw[<-hL];show((E.take i).map _).length+1<=_;simp;omega
  refine(if_pos hn).trans ?_;exact aa (a8 (a:=i) (b:=1) (by omega)) rfl
 ·subst hj;refine⟨_,aa ah (aa ab (aG (by rw[ox];omega) rfl)),?_⟩
  rw[zgb (zha _)];rfl
def gN(mg vl:V->Rat)(S:Option (V×Rat))(u:V):Option (V×Rat):=
 if mg u<0 then S else match S with
  | none=>some (u,vl u)
  | some p=>if p.2<vl u then some (u,vl u) else some p
def kq(mg vl:V->Rat)(T:List V×Option (V×Rat))(u:V):List V×Option (V×Rat):=if u=V.zero\/u∈T.1 then T else(T.1++[u],gN mg vl T.2 u)
def mw(mg vl:V->Rat)(R:List V):List V×Option (V×Rat):=R.foldl (kq mg vl) ([],none)
def tB(mg vl:V->Rat)(R:List V)(u:V):mw mg vl (R++[u])=kq mg vl (mw mg vl R) u:=by simp[mw]
def yN{P:List V->Prop}(h0:P [])(h1:∀ R u,P R->P (R++[u]))(R:List V):P R:=by
 have key:∀ R:List V,P R.reverse:=λR=>by
  induction R with
  | nil=>exact h0
  | cons u R ih=>rw[List.reverse_cons];exact h1 _ _ ih
 have:=key R.reverse
 rwa [List.reverse_reverse] at this
def GS(q:Nat->Int)(F:FL):List V:=F.map λf=>aE (mJ q f.1.1)
def GV(q r:Nat->Int)(l m:List V)(E:List (Nat×Nat))(e:Nat×Nat):List V:=E.flatMap λf=>[aE (V.cross (mE q l e) (mE r m f)),(aE (V.cross (mE q l e) (mE r m f))).neg]
def jJ(q r:Nat->Int)(l m:List V)(F G:FL)(E E':List (Nat×Nat)):List V:=(GS q F++(GS r G).map V.neg)++E.flatMap (GV q r l m E')
def pL{v:V}:aE v=V.zero↔v=V.zero:=nl
def tb{v:V}:v.neg=V.zero↔v=V.zero:=by
 obtain⟨x,y,z⟩:=v;simp only[V.neg,V.zero,V.mk.injEq];omega
def wH{q:Nat->Int}(h:zX q){F:FL}(hF:MJ F){f:(V×Int)×List Nat}(hf:f∈F):bd NB (mJ q f.1.1):=
 Br (zM (k:=549755813888) h (hF.2 f hf).1) (by decide)
def j9(u:V):D:=.st [ac u,.bool true]
theorem yU:∀ (K:List V) (u:V),Option.getD (D.mget (K.map j9) (ac u)) (D.bool false)=.bool (decide (u∈K))
 | [],u=>rfl
 | k::K,u=>by
  show Option.getD (if D.beq (ac u) (ac k)=true then some (D.bool true) else D.mget (K.map j9) (ac u)) (D.bool false)=_
  rw[iQ];by_cases h:u=k
  ·subst h;simp
  ·rw[if_neg (by simpa using h),yU K u]
   simp[h]
theorem oy:∀ (K:List V) (u:V),u ∉ K->D.mput (K.map j9) (ac u) (.bool true)=(K++[u]).map j9
 | [],u,_=>rfl
 | k::K,u,h=>by
  simp only[zva,not_or] at h;show(if D.beq (ac u) (ac k)=true then _ else D.st [ac k,.bool true]::D.mput (K.map j9) (ac u) (.bool true))=_
  rw[iQ,if_neg (by simpa using h.1),oy K u h.2]
  rfl
end Sy
end
noncomputable section
namespace Sy
open Go Go.Proofs Geo
def V9:D:=.st [.st [.bool false,.bool false,ar aQ],.st [.bool false,.bool false,ar aQ]]
def D4:D:=.st [ac V.zero,V9]
def fE(dp:V->Rat):Option (V×Rat)->D
 | none=>D4
 | some p=>.st [ac p.1,gz (dp p.1)]
def gl:Option (V×Rat)->D
 | none=>V9
 | some p=>gz p.2
section
variable{x y:V}{q r:Nat->Int}{l m:List V}
def MR(n:Nat)(h:PairOk x y q r l m){u:V}(hu:bd NB u)(h0:u≠V.zero){S:Option (V×Rat)}(hS:∀ p,S=some p->InR p.2){α:Type}{A:Option α}{B:D->D->Option α}{Y:Option α}
  (hA:gN (λu=>dM u x y q r l m) (λu=>gc u x y q r l m) S u=S->A=Y)
  (hB:gN (λu=>dM u x y q r l m) (λu=>gc u x y q r l m) S u=some (u,gc u x y q r l m)->B (gz (zT u x y q r l m)) (gz (gc u x y q r l m))=Y) :
  (Option.bind (cA (n+1033) 434 [ac u,gE x q l,gE y r m]) λr33=>Option.bind (cA (n+1033) 342 [r33]) λr34=>Option.bind (D.bin .lss r34 (D.int .i64 0)) λx35=>Option.bind (D.truth x35) λb36=>
   if b36=true then A else Option.bind (cA (n+1033) 174 [r33,r33]) λr37=>Option.bind (cA (n+1033) 91 [ac u,ac u]) λr38=>Option.bind (cA (n+1033) 54 [D.int .i64 1]) λr39=>Option.bind (cA (n+1033) 62 [r38,r39]) λr40=>Option.bind (cA (n+1033) 352 [r37,r40]) λr41=>
   Option.bind (D.truth (D.bool S.isSome)) λb42=>Option.bind (if b42=true then Option.bind (cA (n+1033) 73 [r41,gl S]) λr43=>Option.bind (D.bin .leq r43 (D.int .i64 0)) λx44=>D.truth x44 else some false) λb45=>Option.bind (D.truth (D.bool b45)) λb46=>
   if b46=true then A else Option.bind (cA (n+1033) 435 [gE x q l,ac u]) λr47=>Option.bind (cA (n+1033) 74 [D.int .i64 2]) λr48=>Option.bind (cA (n+1033) 352 [r33,r48]) λr49=>Option.bind (cA (n+1033) 173 [r47,r49]) λr50=>B r50 r41)=Y:=by
 have hm:=yR h hu;have sm:=ld h hu;have om:OW (some (dM u x y q r l m)):=de (sm.InR (by decide) (by decide))
 have sv:=GG h hu h0;have ov:OW (some (gc u x y q r l m)):=de (sv.InR (by decide) (by decide))
 obtain⟨v1,v2⟩:=Oi h hu h0;have dd:=T2 h hu;have Bx:=Nj n h hu;rw[hm] at Bx;have i1:In (V.dot u u):=(kW hu (nH hu)).2.2.2.2;rw[Bx,zba,show cA (n+1033) 342 [bW (some (dM u x y q r l m))]=some (I (NV (some (dM u x y q r l m)))) from TD (n+2) om,zba,
  show D.bin .lss (I (NV (some (dM u x y q r l m)))) (D.int .i64 0)=some (.bool (decide (NV (some (dM u x y q r l m))<0))) from ah,zba,ab,zba,LJ]
 by_cases hneg:dM u x y q r l m<0
 ·rw[decide_eq_true hneg,if_pos rfl];exact hA (by unfold gN;rw[if_pos hneg])
 ·rw[decide_eq_false hneg,if_neg (by decide)]
  have e1:cA (n+1033) 62 [ag (V.dot u u),ag 1]=some (bW (some ((V.dot u u:Int):Rat))):=by
   have:=L8 (n+3) i1 (bG (ib 1)) (show(1:Int)≠0 by decide)
   rw[div_one] at this;exact this
  rw[show cA (n+1033) 174 [bW (some (dM u x y q r l m)),bW (some (dM u x y q r l m))]=_ from J4 (n+2) om om,v1,zba,show cA (n+1033) 91 [ac u,ac u]=_ from KW (n+1027) hu (nH hu),zba,
   show cA (n+1033) 54 [D.int .i64 1]=some (ag 1) from xW (n+1031) (ib 1),zba,e1,zba,
   show cA (n+1033) 352 [bW (some (dM u x y q r l m*dM u x y q r l m)),bW (some ((V.dot u u:Int):Rat))]=_ from J5 (n+1) (de ((sm.mul sm).InR (by decide) (by decide))) (de (Bi i1)),v2,zba,ab,zba]
  have tail:gN (λu=>dM u x y q r l m) (λu=>gc u x y q r l m) S u=some (u,gc u x y q r l m)->(Option.bind (cA (n+1033) 435 [gE x q l,ac u]) λr47=>Option.bind (cA (n+1033) 74 [D.int .i64 2]) λr48=>Option.bind (cA (n+1033) 352 [bW (some (dM u x y q r l m)),r48]) λr49=>Option.bind (cA (n+1033) 173 [r47,r49]) λr50=>B r50 (bW (some (gc u x y q r l m))))=Y:=λhs=>by
   have e2:cA (n+1033) 74 [D.int .i64 2]=some (bW (some ((2:Int):Rat))):=X3 (n+1) (ib 2);rw[show cA (n+1033) 435 [gE x q l,ac u]=some (bW (some (fa u x q l))) from KS (n+2) hu h.pa h.la h.na h.ka,zba,e2,zba,
    show cA (n+1033) 352 [bW (some (dM u x y q r l m)),bW (some ((2:Int):Rat))]=_ from J5 (n+1) om (de (Bi (bG (ib 2)))),zba,
    show cA (n+1033) 173 [bW (some (fa u x q l)),bW (wB (some (dM u x y q r l m)) (some ((2:Int):Rat)))]=_ from J3 (n+2) (de (tq hu h.pa h.la h.na)) (IR _ _),dd,zba]
   exact hB hs
  cases S with
  | none=>
   rw[show(none:Option (V×Rat)).isSome=false from rfl,if_neg (by decide),zba,ab,zba,if_neg (by decide)]
   exact tail (by unfold gN;rw[if_neg hneg])
  | some p=>
   have op:OW (some p.2):=de (hS p rfl);rw[show(some p:Option (V×Rat)).isSome=true from rfl,if_pos rfl,show gl (some p)=bW (some p.2) from rfl,show cA (n+1033) 73 [bW (some (gc u x y q r l m)),bW (some p.2)]=_ from TX (n+2) ov op,zba,
    show D.bin .leq (I (uf (some (gc u x y q r l m)) (some p.2))) (D.int .i64 0)=some (.bool (decide (uf (some (gc u x y q r l m)) (some p.2)<=0))) from pZ,zba,ab,zba,ab,zba,Nt]
   by_cases hc:p.2<gc u x y q r l m
   ·rw[decide_eq_true hc,if_neg (by decide)]
    exact tail (by unfold gN;rw[if_neg hneg];simp only[hc,if_true])
   ·rw[decide_eq_false hc,if_pos (by decide)]
    exact hA (by unfold gN;rw[if_neg hneg];simp only[hc,if_false])
end
def LQ{v u:V}(hv:u=V.zero↔v=V.zero){K:List V}{e:D}{kn:List D}{w:D}(he:e=I (if v=V.zero then 31 else 0))(hk:kn=K.map j9)(hw:w=ac u){α:Type}{A B Y:Option α}(hA:u=V.zero\/u∈K->A=Y)(hB:¬ (u=V.zero\/u∈K)->B=Y) :
  (Option.bind (D.truth (D.bool (!(D.beq e (D.int .i64 0))))) λb30=>Option.bind (if b30=true then some true else D.truth (Option.getD (D.mget kn w) (D.bool false))) λb31=>Option.bind (D.truth (D.bool b31)) λb32=>if b32=true then A else B)=Y:=by
 subst he hk hw;rw[yU];by_cases h:v=V.zero
 ·rw[if_pos h];exact hA (.inl (hv.2 h))
 ·rw[if_neg h];show(if decide (u∈K)=true then A else B)=Y
  by_cases hm:u∈K
  ·rw[decide_eq_true hm];exact hA (.inr hm)
  ·rw[decide_eq_false hm];exact hB (λhh=>hh.elim (λhz=>h (hv.1 hz)) hm)
end Sy
end
noncomputable section
namespace Sy
open Go Go.Proofs Geo
def I1{α:Type}{A B y:α}(h:B=y):(if(1:Nat)=0 then A else B)=y:=h
def JC(k:Nat)(u:V):V:=if 1-2*(k:Int)<0 then u.neg else u
def Gl{k:Nat}{u:V}:JC k u=V.zero↔u=V.zero:=by
 unfold JC;split
 ·exact tb
 ·exact Iff.rfl
def rC{mg vl:V->Rat}(R:List V):(∀ u∈(mw mg vl R).1,u∈R/\u≠V.zero)/\∀ p,(mw mg vl R).2=some p->p.1∈R/\p.1≠V.zero/\¬ mg p.1<0/\p.2=vl p.1:=by
 refine yN (P:=λR=>(∀ u∈(mw mg vl R).1,u∈R/\u≠V.zero)/\∀ p,(mw mg vl R).2=some p->p.1∈R/\p.1≠V.zero/\¬ mg p.1<0/\p.2=vl p.1) ⟨λu hu=>(by cases hu),λp hp=>(by cases hp)⟩ (λR u ih=>?_) R
 obtain⟨i1,i2⟩:=ih;rw[tB];unfold kq;split
 ·exact⟨λw hw=>⟨List.mem_append_left _ (i1 w hw).1,(i1 w hw).2⟩,λp hp=>⟨List.mem_append_left _ (i2 p hp).1,(i2 p hp).2⟩⟩
 ·rename_i hn;have hu0:u≠V.zero:=λh=>hn (.inl h);refine⟨λw hw=>?_,λp hp=>?_⟩
  ·rcases List.mem_append.1 hw with hw|hw
   ·exact⟨List.mem_append_left _ (i1 w hw).1,(i1 w hw).2⟩
   ·rw[zHa.1 hw];exact⟨by simp,hu0⟩
  ·have old:(mw mg vl R).2=some p->p.1∈R++[u]/\p.1≠V.zero/\¬ mg p.1<0/\p.2=vl p.1:=λh=>⟨List.mem_append_left _ (i2 p h).1,(i2 p h).2⟩;dsimp only[gN] at hp;split at hp
   ·exact old hp
   ·rename_i hm;split at hp
    ·cases hp;exact⟨by simp,hu0,hm,rfl⟩
    ·rename_i p' e;split at hp
     ·cases hp;exact⟨by simp,hu0,hm,rfl⟩
     ·cases hp;exact old e
def uT{α β:Type}{E:List α}(g:α->List β){i:Nat}(hi:i<E.length):(E.take (i+1)).flatMap g=(E.take i).flatMap g++g E[i]:=by
 rw[List.take_add_one,zda hi];simp only[Option.toList_some,List.flatMap_append,List.flatMap_cons,List.flatMap_nil,zLb]
section
variable{x y:V}{q r:Nat->Int}{l m:List V}{F G:FL}{E E':List (Nat×Nat)}
def xi(h:PairOk x y q r l m)(hl:Fac l F E)(hm:Fac m G E'):∀ u∈jJ q r l m F G E E',bd NB u:=by
 intro u hu;rcases List.mem_append.1 hu with hu|hu
 ·rcases List.mem_append.1 hu with hu|hu
  ·obtain⟨f,hf,rfl⟩:=z7a.1 hu;exact dT (wH h.pa.hq hl.fb hf)
  ·obtain⟨w,hw,rfl⟩:=z7a.1 hu;obtain⟨f,hf,rfl⟩:=z7a.1 hw;exact pI (dT (wH h.pb.hq hm.fb hf))
 ·obtain⟨e,he,hu⟩:=zab.1 hu;obtain⟨f,hf,hu⟩:=zab.1 hu;have hb:=dT (uI (wC h.pa.hq h.la (hl.lt e he)) (wC h.pb.hq h.lb (hm.lt f hf)));simp only[zva,zUb,or_false] at hu;rcases hu with rfl|rfl
  ·exact hb
  ·exact pI hb
def cX(x y:V)(q r:Nat->Int)(l m:List V)(R:List V):List V×Option (V×Rat):=mw (λu=>dM u x y q r l m) (λu=>gc u x y q r l m) R
def tH(x y:V)(q r:Nat->Int)(l m:List V)(R:List V)(u:V):cX x y q r l m (R++[u])=kq (λu=>dM u x y q r l m) (λu=>gc u x y q r l m) (cX x y q r l m R) u:=tB ..
def JA(h:PairOk x y q r l m){R:List V}(hR:∀ u∈R,bd NB u):∀ p,(cX x y q r l m R).2=some p->InR p.2:=λp hp=>by
 obtain⟨h1,h2,_,h3⟩:=(rC R).2 p hp;rw[h3];exact(GG h (hR _ h1) h2).InR (by decide) (by decide)
def KR(n:Nat)(h:PairOk x y q r l m)(hl:Fac l F E)(hm:Fac m G E') :
  cA (n+1034) 416 [eV x q,cm l,eV y r,cm m]=some (.tup [fE (λu=>zT u x y q r l m) (cX x y q r l m (jJ q r l m F G E E')).2,.bool (cX x y q r l m (jJ q r l m F G E E')).2.isSome]):=by
 rw[Vt];delta H5 qG qB qC qT qN qS qX qV qW qZ iL iR Jn;obtain⟨P1,e1⟩:∃ P1,P1=gE x q l:=⟨_,rfl⟩;obtain⟨P2,e2⟩:∃ P2,P2=gE y r m:=⟨_,rfl⟩;obtain⟨dp,edp⟩:∃ dp:V->Rat,dp=λu=>zT u x y q r l m:=⟨_,rfl⟩;rw[<-edp];refine aa (z:=P1) (by rw[e1];exact ID (n+1029) h.pa h.la h.ka) (aa (z:=P2) (by rw[e2];exact ID (n+1029) h.pb h.lb h.kb) ?_)
 have hR:=xi h hl hm;obtain⟨T,hT⟩:∃ T,cX x y q r l m (jJ q r l m F G E E')=T:=⟨_,rfl⟩;rw[hT];refine aa (z:=(0,[D4,P1,P2,fE dp T.2,gl T.2,.bool T.2.isSome])) ?_ rfl;have body:∀ (R:List V) (u:V),(∀ w∈R++[u],bd NB w)->∀ {α:Type} {K:List V} {S:Option (V×Rat)} {A:Option α} {B:D->D->Option α} {Y:Option α},(cX x y q r l m R)=(K,S)->u≠V.zero ->
   (gN (λu=>dM u x y q r l m) (λu=>gc u x y q r l m) S u=S->A=Y)->(gN (λu=>dM u x y q r l m) (λu=>gc u x y q r l m) S u=some (u,gc u x y q r l m)->B (gz (dp u)) (gz (gc u x y q r l m))=Y) ->
   (Option.bind (cA (n+1033) 434 [ac u,P1,P2]) λr33=>Option.bind (cA (n+1033) 342 [r33]) λr34=>Option.bind (D.bin .lss r34 (D.int .i64 0)) λx35=>Option.bind (D.truth x35) λb36=>
   if b36=true then A else Option.bind (cA (n+1033) 174 [r33,r33]) λr37=>Option.bind (cA (n+1033) 91 [ac u,ac u]) λr38=>Option.bind (cA (n+1033) 54 [D.int .i64 1]) λr39=>Option.bind (cA (n+1033) 62 [r38,r39]) λr40=>Option.bind (cA (n+1033) 352 [r37,r40]) λr41=>
   Option.bind (D.truth (D.bool S.isSome)) λb42=>Option.bind (if b42=true then Option.bind (cA (n+1033) 73 [r41,gl S]) λr43=>Option.bind (D.bin .leq r43 (D.int .i64 0)) λx44=>D.truth x44 else some false) λb45=>Option.bind (D.truth (D.bool b45)) λb46=>
   if b46=true then A else Option.bind (cA (n+1033) 435 [P1,ac u]) λr47=>Option.bind (cA (n+1033) 74 [D.int .i64 2]) λr48=>Option.bind (cA (n+1033) 352 [r33,r48]) λr49=>Option.bind (cA (n+1033) 173 [r47,r49]) λr50=>B r50 r41)=Y:=by
  intro R u hb α K S A B Y e h0 hA hB;rw[e1,e2];rw[edp] at hB;exact MR n h (hb u (by simp)) h0 (λp hp=>JA h (λw hw=>hb w (List.mem_append_left _ hw)) p (by rw[e];exact hp)) hA hB
 obtain⟨rws,hrws⟩:∃ rws:Nat->List V,rws=λk=>if k=0 then[] else if k=1 then GS q F else GS q F++(GS r G).map V.neg:=⟨_,rfl⟩
 have data:∀ k,k<2->∃ (xk:V) (qk:Nat->Int) (lk:List V) (Fk:FL) (Ek:List (Nat×Nat)),[P1,P2][k]?=some (gE xk qk lk)/\zX qk/\Fac lk Fk Ek/\rws (k+1)=rws k++Fk.map λf=>JC k (aE (mJ qk f.1.1)):=λk hk=>by
  have:k=0\/k=1:=by omega
  rcases this with rfl|rfl
  ·exact⟨x,q,l,F,E,by rw[e1];rfl,h.pa.hq,hl,by rw[hrws];rfl⟩
  ·exact⟨y,r,m,G,E',by rw[e2];rfl,h.pb.hq,hm,by rw[hrws];simp[GS,JC]⟩
 have sub:∀ k,k<=2->∀ w∈rws k,w∈jJ q r l m F G E E':=λk hk w hw=>by
  have:k=0\/k=1\/k=2:=by omega
  rw[hrws] at hw;rcases this with rfl|rfl|rfl
  ·cases hw
  ·exact List.mem_append_left _ (List.mem_append_left _ hw)
  ·exact List.mem_append_left _ hw
 refine bZ (λk s=>s=[.sl [P1,P2],I (k:Int),D4,P1,P2,fE dp (cX x y q r l m (rws k)).2,gl (cX x y q r l m (rws k)).2,.bool (cX x y q r l m (rws k)).2.isSome,.sl ((cX x y q r l m (rws k)).1.map j9)]) 2 0 (zma _) (by rw[hrws];rfl) (λk hk s hs=>?_) (λs hs=>?_)
 ·subst hs;left;obtain⟨xk,qk,lk,Fk,Ek,d1,d2,d3,d4⟩:=data k hk;have hsub:=sub (k+1) (by omega)
  rw[d4] at hsub ⊢;refine⟨_,?_,rfl⟩;refine aa ah (aa ab (az (by show(k:Int)<2;omega) (aa (z:=k) (ap hk) (aa d1 (aa (z:=cm lk) rfl (aa (d3.h18 (n+1025)) (aa (z:=aK Fk) rfl ?_)))))))
  obtain⟨g,hg⟩:∃ g:(V×Int)×List Nat->V,g=λf=>JC k (aE (mJ qk f.1.1)):=⟨_,rfl⟩;rw[<-hg] at hsub ⊢;refine bZ (λi s=>s=[.sl [P1,P2],I (i:Int),D4,P1,P2,fE dp (cX x y q r l m (rws k++(Fk.take i).map g)).2,gl (cX x y q r l m (rws k++(Fk.take i).map g)).2,.bool (cX x y q r l m (rws k++(Fk.take i).map g)).2.isSome,.sl ((cX x y q r l m (rws k++(Fk.take i).map g)).1.map j9)]) Fk.length 0 (zma _) (by rw[List.take_zero,zbd,zLb];rfl) (λi hi s hs=>?_) (λs hs=>?_)
  ·subst hs;left;refine⟨_,?_,rfl⟩;have hf:=d3.fb.2 _ (zIa hi);have hv:=wH d2 d3.fb (zIa hi);have hlen:=d3.fb.1;have et:(Fk.take (i+1)).map g=(Fk.take i).map g++[g Fk[i]]:=by
    rw[List.take_add_one,zda hi];simp only[Option.toList_some,z3b,z4a,zbd]
   have hb:∀ w∈(rws k++(Fk.take i).map g)++[g Fk[i]],bd NB w:=λw hw=>by
    rw[zEa,<-et] at hw;refine hR w (hsub w ?_);rcases List.mem_append.1 hw with hw|hw
    ·exact List.mem_append_left _ hw
    ·obtain⟨f,hf,rfl⟩:=z7a.1 hw;exact zQa _ (z7a.2 ⟨f,zGa hf,rfl⟩)
   rw[et,<-zEa,tH];have bdy:=@body (rws k++(Fk.take i).map g) (g Fk[i]) hb;obtain⟨R,eR⟩:∃ R,rws k++(Fk.take i).map g=R:=⟨_,rfl⟩;rw[eR] at bdy ⊢;obtain⟨⟨K,S⟩,eT⟩:∃ T,cX x y q r l m R=T:=⟨_,rfl⟩;rw[eT] at bdy ⊢;obtain⟨i1,i2,i3⟩:=wL hv;refine aa ah (aa ab (az (by rw[bh];omega) (aa (z:=aK Fk) rfl (aa (z:=i) (by rw[bh];exact ap hi) (aa (fL hi) (aa (z:=kF qk) rfl (aa (z:=ac Fk[i].1.1) rfl ?_)))))))
   refine aa (z:=ac (mJ qk Fk[i].1.1)) (J6 (n+1030) d2 (S7 hf.1)) (aa (TP (n+1030) i1 i2 i3) (aa (ca (by simp only[inR];omega)) (aa (cO (by simp only[inR];omega)) ?_)))
   have gu:g Fk[i]=JC k (aE (mJ qk Fk[i].1.1)):=by rw[hg]
   rw[gu] at bdy ⊢;obtain⟨v,ev⟩:∃ v,mJ qk Fk[i].1.1=v:=⟨_,rfl⟩;rw[ev] at hv bdy ⊢;obtain⟨u,eu⟩:∃ u,JC k (aE v)=u:=⟨_,rfl⟩;have hz:u=V.zero↔v=V.zero:=by rw[<-eu,Gl,pL]
   obtain⟨Pk,ePk⟩:∃ Pk,gE xk qk lk=Pk:=⟨_,rfl⟩;rw[ePk];refine aa (z:=(0,[.bool true,D4,P1,P2,fE dp (kq (λu=>dM u x y q r l m) (λu=>gc u x y q r l m) (K,S) u).2,gl (kq (λu=>dM u x y q r l m) (λu=>gc u x y q r l m) (K,S) u).2,.bool (kq (λu=>dM u x y q r l m) (λu=>gc u x y q r l m) (K,S) u).2.isSome,P1,P2,.sl ((kq (λu=>dM u x y q r l m) (λu=>gc u x y q r l m) (K,S) u).1.map j9),Pk])) ?_ (aa (z:=.bool false) rfl (aa (z:=false) rfl (t7 (aa (a8 (a:=i) (b:=1) (by omega)) (by rw[eu];rfl)))))
   refine aa (Nk (n+3) hv) (aa (z:=ac (aE v)) rfl (aa (z:=I (if v=V.zero then 31 else 0)) rfl (aa (z:=(0,[D4,P1,P2,fE dp S,gl S,.bool S.isSome,P1,P2,.sl (K.map j9),Pk,ac u])) ?_ ?_)))
   ·refine aa ah (aa ab ?_);rw[<-eu];by_cases hk2:1-2*(k:Int)<0
    ·refine az hk2 (aa (Ns (n+1032) (dT hv) (by decide)) ?_)
     rw[show JC k (aE v)=(aE v).neg from if_pos hk2];rfl
    ·refine aG hk2 ?_;rw[show JC k (aE v)=aE v from if_neg hk2];rfl
   rw[eu] at bdy;refine LQ hz (K:=K) rfl rfl rfl (λhs=>?_) (λhs=>?_)
   ·rw[show kq (λu=>dM u x y q r l m) (λu=>gc u x y q r l m) (K,S) u=(K,S) from if_pos hs];rfl
   ·rw[show kq (λu=>dM u x y q r l m) (λu=>gc u x y q r l m) (K,S) u=(K++[u],gN (λu=>dM u x y q r l m) (λu=>gc u x y q r l m) S u) from if_neg hs];have hmp:=oy K u (λhh=>hs (.inr hh));refine aa (z:=(0,[fE dp (gN (λu=>dM u x y q r l m) (λu=>gc u x y q r l m) S u),gl (gN (λu=>dM u x y q r l m) (λu=>gc u x y q r l m) S u),.bool (gN (λu=>dM u x y q r l m) (λu=>gc u x y q r l m) S u).isSome,P1,P2,.sl ((K++[u]).map j9),Pk])) ?_ rfl;refine bdy rfl (λhh=>hs (.inl hh)) (λe=>?_) (λe=>?_)
    ·rw[e,<-hmp];rfl
    ·rw[e,<-hmp];rfl
  ·subst hs;refine⟨_,aa ah (aa ab (aG (by rw[bh];omega) rfl)),?_⟩
   rw[zgb (zha _)];exact I1 (aa (a8 (a:=k) (b:=1) (by omega)) rfl)
 ·subst hs;refine⟨_,aa ah (aa ab (aG (by decide) rfl)),I1 ?_⟩
  rw[show rws 2=GS q F++(GS r G).map V.neg by rw[hrws];rfl] at *
  obtain⟨R0,eR0⟩:∃ R0,GS q F++(GS r G).map V.neg=R0:=⟨_,rfl⟩;have hTR:cX x y q r l m (R0++E.flatMap (GV q r l m E'))=T:=by rw[<-hT,<-eR0];rfl
  have hRR:∀ u∈R0++E.flatMap (GV q r l m E'),bd NB u:=by rw[<-eR0];exact hR
  have hEl:=hl.el;have hEm:=hm.el;have g1:cA (n+1033) 449 [P1]=some (.sl (E.map λe=>ac (mE q l e))):=by rw[e1];exact Nl (n+1023) h.pa h.la hl
  have g2:cA (n+1033) 449 [P2]=some (.sl (E'.map λe=>ac (mE r m e))):=by rw[e2];exact Nl (n+1023) h.pb h.lb hm
  rw[eR0];refine aa g2 (aa g1 (aa (z:=E.map λe=>ac (mE q l e)) rfl ?_));refine bZ (λi s=>s=[I (i:Int),D4,P1,P2,fE dp (cX x y q r l m (R0++(E.take i).flatMap (GV q r l m E'))).2,gl (cX x y q r l m (R0++(E.take i).flatMap (GV q r l m E'))).2,.bool (cX x y q r l m (R0++(E.take i).flatMap (GV q r l m E'))).2.isSome,.sl ((cX x y q r l m (R0++(E.take i).flatMap (GV q r l m E'))).1.map j9)]) E.length 0 (zma _) (by rw[List.take_zero,List.flatMap_nil,zLb];rfl) (λi hi s hs=>?_) (λs hs=>?_)
  ·subst hs;left;refine⟨_,?_,rfl⟩;have he:=hl.lt E[i] (zIa hi);have hbe:=wC h.pa.hq h.la he;rw[uT _ hi,<-zEa];obtain⟨R1,eR1⟩:∃ R1,R0++(E.take i).flatMap (GV q r l m E')=R1:=⟨_,rfl⟩;have hR1:∀ u∈R1++GV q r l m E' E[i],bd NB u:=λu hu=>hRR u (by
    rw[<-eR1,zEa] at hu;rcases List.mem_append.1 hu with hu|hu
    ·exact List.mem_append_left _ hu
    ·refine zQa _ ?_;rcases List.mem_append.1 hu with hu|hu
     ·obtain⟨a,ha,hb⟩:=zab.1 hu;exact zab.2 ⟨a,zGa ha,hb⟩
     ·exact zab.2 ⟨_,zIa hi,hu⟩)
   rw[eR1];refine aa ah (aa ab (az (by rw[zua];omega) (aa (z:=E.map λe=>ac (mE q l e)) rfl (aa (z:=i) (by rw[zua];exact ap hi) (aa (z:=ac (mE q l E[i])) (by simp[hi]) (aa (z:=E'.map λe=>ac (mE r m e)) rfl ?_))))))
   obtain⟨e,ee⟩:∃ e,E[i]=e:=⟨_,rfl⟩;rw[ee] at he hbe hR1 ⊢;obtain⟨c2,hc2⟩:∃ c2:Nat×Nat->List V,c2=λf=>[aE (V.cross (mE q l e) (mE r m f)),(aE (V.cross (mE q l e) (mE r m f))).neg]:=⟨_,rfl⟩;rw[show GV q r l m E' e=E'.flatMap c2 by rw[hc2];rfl] at hR1 ⊢
   refine bZ (λj s=>s=[I (j:Int),D4,P1,P2,fE dp (cX x y q r l m (R1++(E'.take j).flatMap c2)).2,gl (cX x y q r l m (R1++(E'.take j).flatMap c2)).2,.bool (cX x y q r l m (R1++(E'.take j).flatMap c2)).2.isSome,.sl ((cX x y q r l m (R1++(E'.take j).flatMap c2)).1.map j9)]) E'.length 0 (zma _) (by rw[List.take_zero,List.flatMap_nil,zLb];rfl) (λj hj s hs=>?_) (λs hs=>?_)
   ·subst hs;left;refine⟨_,?_,rfl⟩;have hf:=hm.lt E'[j] (zIa hj);have hbf:=wC h.pb.hq h.lb hf;rw[uT _ hj,<-zEa];obtain⟨R,eR⟩:∃ R,R1++(E'.take j).flatMap c2=R:=⟨_,rfl⟩;have hb2:∀ w∈R++c2 E'[j],bd NB w:=λw hw=>hR1 w (by
     rw[<-eR,zEa] at hw;rcases List.mem_append.1 hw with hw|hw
     ·exact List.mem_append_left _ hw
     ·refine zQa _ ?_;rcases List.mem_append.1 hw with hw|hw
      ·obtain⟨a,ha,hb⟩:=zab.1 hw;exact zab.2 ⟨a,zGa ha,hb⟩
      ·exact zab.2 ⟨_,zIa hj,hw⟩)
    rw[eR];refine aa ah (aa ab (az (by rw[zua];omega) (aa (z:=E'.map λe=>ac (mE r m e)) rfl (aa (z:=j) (by rw[zua];exact ap hj) (aa (z:=ac (mE r m E'[j])) (by simp[hj]) (aa (TR (n+1026) hbe hbf) ?_))))))
    have hv:=uI hbe hbf;have ec:c2 E'[j]=[aE (V.cross (mE q l e) (mE r m E'[j])),(aE (V.cross (mE q l e) (mE r m E'[j]))).neg]:=by rw[hc2]
    rw[ec] at hb2 ⊢;obtain⟨v,ev⟩:∃ v,V.cross (mE q l e) (mE r m E'[j])=v:=⟨_,rfl⟩;rw[ev] at hv hb2 ⊢;obtain⟨X,eX⟩:∃ X,ac (mE q l e)=X:=⟨_,rfl⟩;rw[eX];rw[show R++[aE v,(aE v).neg]=(R++[aE v])++[(aE v).neg] by simp] at hb2 ⊢
    have b1:=@body R (aE v) (λw hw=>hb2 w (List.mem_append_left _ hw));have b2:=@body (R++[aE v]) (aE v).neg hb2;rw[tH _ _ _ _ _ _ _ (aE v).neg];obtain⟨⟨K2,S2⟩,eT2⟩:∃ T,cX x y q r l m (R++[aE v])=T:=⟨_,rfl⟩;have eU:=eT2;rw[tH] at eU;rw[eT2] at b2 ⊢;obtain⟨⟨K,S⟩,eT⟩:∃ T,cX x y q r l m R=T:=⟨_,rfl⟩;rw[eT] at b1 eU ⊢;have k447:=Nk (n+3) hv;have hz1:aE v=V.zero↔v=V.zero:=pL;have hz2:(aE v).neg=V.zero↔v=V.zero:=by rw[tb,pL]
    have bp:=dT hv;refine aa (z:=(0,[.bool true,D4,P1,P2,fE dp S2,gl S2,.bool S2.isSome,.sl (K2.map j9),X,fF v])) ?_ (aa (z:=.bool false) rfl (aa (z:=false) rfl (t7 ?_)))
    ·refine aa k447 (aa (z:=ac (aE v)) rfl (aa (z:=I (if v=V.zero then 31 else 0)) rfl (aa (z:=(0,[D4,P1,P2,fE dp S,gl S,.bool S.isSome,.sl (K.map j9),X,fF v,ac (aE v)])) (aa ah (aa ab (aG (by decide) rfl))) ?_)))
     refine LQ hz1 (K:=K) rfl rfl rfl (λhs=>?_) (λhs=>?_)
     ·rw[show kq (λu=>dM u x y q r l m) (λu=>gc u x y q r l m) (K,S) (aE v)=(K,S) from if_pos hs] at eU;cases eU;rfl
     ·rw[show kq (λu=>dM u x y q r l m) (λu=>gc u x y q r l m) (K,S) (aE v)=(K++[aE v],gN (λu=>dM u x y q r l m) (λu=>gc u x y q r l m) S (aE v)) from if_neg hs] at eU;have hmp:=oy K (aE v) (λhh=>hs (.inr hh));obtain⟨rfl,rfl⟩:=Prod.mk.inj eU;refine aa (z:=(0,[fE dp (gN (λu=>dM u x y q r l m) (λu=>gc u x y q r l m) S (aE v)),gl (gN (λu=>dM u x y q r l m) (λu=>gc u x y q r l m) S (aE v)),.bool (gN (λu=>dM u x y q r l m) (λu=>gc u x y q r l m) S (aE v)).isSome,.sl ((K++[aE v]).map j9),X,fF v])) ?_ rfl;refine b1 rfl (λhh=>hs (.inl hh)) (λe=>?_) (λe=>?_)
      ·rw[e,<-hmp];rfl
      ·rw[e,<-hmp];rfl
    ·obtain⟨u,eu⟩:∃ u,(aE v).neg=u:=⟨_,rfl⟩;rw[eu] at hz2 b2 ⊢;refine aa (z:=(0,[.bool true,D4,P1,P2,fE dp (kq (λu=>dM u x y q r l m) (λu=>gc u x y q r l m) (K2,S2) u).2,gl (kq (λu=>dM u x y q r l m) (λu=>gc u x y q r l m) (K2,S2) u).2,.bool (kq (λu=>dM u x y q r l m) (λu=>gc u x y q r l m) (K2,S2) u).2.isSome,.sl ((kq (λu=>dM u x y q r l m) (λu=>gc u x y q r l m) (K2,S2) u).1.map j9),X])) ?_ (aa (z:=.bool false) rfl (aa (z:=false) rfl (t7 (aa (a8 (a:=j) (b:=1) (by omega)) rfl))))
     refine aa k447 (aa (z:=ac (aE v)) rfl (aa (z:=I (if v=V.zero then 31 else 0)) rfl (aa (z:=(0,[D4,P1,P2,fE dp S2,gl S2,.bool S2.isSome,.sl (K2.map j9),X,ac u])) (aa ah (aa ab (az (by decide) (aa (Ns (n+1032) bp (by decide)) (by rw[eu];rfl))))) ?_)))
     refine LQ hz2 (K:=K2) rfl rfl rfl (λhs=>?_) (λhs=>?_)
     ·rw[show kq (λu=>dM u x y q r l m) (λu=>gc u x y q r l m) (K2,S2) u=(K2,S2) from if_pos hs];rfl
     ·rw[show kq (λu=>dM u x y q r l m) (λu=>gc u x y q r l m) (K2,S2) u=(K2++[u],gN (λu=>dM u x y q r l m) (λu=>gc u x y q r l m) S2 u) from if_neg hs];have hmp:=oy K2 u (λhh=>hs (.inr hh));refine aa (z:=(0,[fE dp (gN (λu=>dM u x y q r l m) (λu=>gc u x y q r l m) S2 u),gl (gN (λu=>dM u x y q r l m) (λu=>gc u x y q r l m) S2 u),.bool (gN (λu=>dM u x y q r l m) (λu=>gc u x y q r l m) S2 u).isSome,.sl ((K2++[u]).map j9),X])) ?_ rfl;refine b2 rfl (λhh=>hs (.inl hh)) (λe=>?_) (λe=>?_)
      ·rw[e,<-hmp];rfl
      ·rw[e,<-hmp];rfl
   ·subst hs;refine⟨_,aa ah (aa ab (aG (by rw[zua];omega) rfl)),?_⟩
    rw[zgb (zha _)];exact I1 (aa (a8 (a:=i) (b:=1) (by omega)) rfl)
  ·subst hs;refine⟨_,aa ah (aa ab (aG (by rw[zua];omega) rfl)),?_⟩
   rw[zgb (zha _),hTR];exact I1 rfl
end
end Sy
end
end Go.Proofs.YtphlmegkommlnaaGreatDoor
