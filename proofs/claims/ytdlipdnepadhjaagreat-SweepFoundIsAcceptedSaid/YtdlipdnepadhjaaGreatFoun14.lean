/- Part 14 of the proof that SweepFoundIsAccepted answers true at every input -/
import Derived.Test.YtdlipdnepadhjaaGreatFoun01
import Derived.Test.YtdlipdnepadhjaaGreatFoun06
import Derived.Test.YtdlipdnepadhjaaGreatFoun13
set_option linter.all false
set_option maxRecDepth 20000
namespace Go.Proofs.YtdlipdnepadhjaaGreat
noncomputable section
namespace Sy
open Go Go.Proofs Geo
section
variable{f:Nat->Int}{a:Nat}
def aeT(n:Nat){l:List Int}{k:Nat}(hk:k<l.length):C (n+1) 582 [I (k:Int),aE l]=some (R (l.getD k 0)):=by rw[ahv];delta Qh qX;exact J (l.map R) (O (kG hk) (O (jS hk) rfl))
def Kw(l:List Int):D.max2 (.int .i64 (l.map R).length) (.int .i64 0)=some (I (l.length:Int)):=by rw[zka];exact jr _
theorem Ga(l:List Int):bL ((List.range l.length).map λk=>l.getD k 0)=bL l:=oN λk=>by all_goals grind
def Xs(n:Nat){l:List Int}(h:Kn l)(hl:l.length<=25):C (n+4) 581 [aE l]=some (aE (bL l)):=by
 rw[ahu];delta Qg P qC qS qX qV qW iL iR Jn J0 J1 bq jl qA qc qj Z qn qr qu qy;refine J (l.map R) (O (Kw l) (O (vX _) ?_));rw[zla u0]
 refine O (Kw l) ?_;refine(Uc n l.length (λk=>l.getD k 0) (λk _=>gH h k) hl (rest:=[aE l]) (λi hi=>?_) ?_).trans ?_
 ·exact O jq (O ac (au hi (O (aeT (n+2) hi) (Wq n (gH h i) (by simp;omega) u0 _ _))))
 ·exact O jq (O ac (aB u0 rfl))
 ·rw[Ga]
def aeN(n:Nat)(a b:Int){k:Nat}(hk:k<2):C (n+1) 564 [I (k:Int),.sl [I a,I b]]=some (I ([a,b].getD k 0)):=by
 rw[aho];delta Qa qX
 match k,hk with
 | 0,_=>rfl
 | 1,_=>rfl
def UB{a b:Int}{n:Nat}(c:a.natAbs<=2^n)(d:b.natAbs<=2^n):bL ((List.range 2).map λk=>[a,b].getD k 0)=K (bP a b):=
 yP (akJ c d) H λk=>by
  match k with
  | 0=>rfl
  | 1=>rfl
  | k+2=>rfl
def Xo(n:Nat){a b:Int}{m:Nat}(e:a.natAbs<=2^m)(f:b.natAbs<=2^m)(hm:m<=62):C (n+4) 535 [.sl [I a,I b]]=some (ar (bP a b)):=by
 have hp:2^m<=2^62:=zqa H hm
 have d:2^62=4611686018427387904:=rfl;have g:inR a:=by simp only[inR];omega
 have h:inR b:=by simp only[inR];omega
 have c:∀ k,k<2->inR ([a,b].getD k 0):=λk hk=>by
  match k,hk with
  | 0,_=>exact g
  | 1,_=>exact h
 rw[ahd];delta PX P qC qS qX qV qW iL iR Jn J0 J1 bq jl qA qc qj Z qn qr qu qy;refine J [I a,I b] (J (I 2) (J 2 ?_));rw[zla H]
 refine J (I 2) ?_;refine(Uc n 2 (λk=>[a,b].getD k 0) (λk hk=>bB (c k hk)) H (rest:=[.sl [I a,I b]]) (λi hi=>?_) ?_).trans ?_
 ·exact O (jq (m:=2)) (O ac (au hi (O (aeN (n+2) a b hi) (O (ou (n+1) (c i hi)) (O (KW (n+1) (bB (c i hi))) (O aJ (O ac (by
   rw[zia H,zla (by simp[aE,D.els];omega)]
   refine O (ay (aw (i:=i) u0)) ?_
   rw[show aE ((List.range i).map (λk=>[a,b].getD k 0)++[[a,b].getD i 0])=.sl (((List.range i).map λk=>[a,b].getD k 0).map R++[R ([a,b].getD i 0)]) from by unfold aE;rw[zib];rfl]
   rfl))))))))
 ·exact O (jq (m:=2)) (O ac (aB u0 rfl))
 ·rw[UB e f];rfl
theorem S5{g:Nat->Int}{k:Nat}:∀ i0,(∀ j,j<i0->g (k-j)=0)->pn f g k i0=0
 | 0,_=>rfl
 | i+1,h=>by show pn f g k i+f i*g (k-i)=0;rw[S5 i λj a=>h j u0,h i u0];simp
theorem S4{f g:Nat->Int}{k i1:Nat}(h:∀ j,i1<=j->f j=0):∀ d,pn f g k (i1+d)=pn f g k i1
 | 0=>rfl
 | d+1=>by show pn f g k (i1+d)+f (i1+d)*g (k-(i1+d))=_;rw[S4 h d,h _ u0];simp
def nD{d b:Nat}(h:S f d b)(a:d<=3){k:Nat}(hk:(K f).length<=k):f k=0:=by rw[<-bN h a k,zDa,zXa hk];rfl
def SZ{g:Nat->Int}{d e b:Nat}(c:S f d a)(h:S g e b)(l:a+b<=480){k i:Nat}(hi:i<=7):In (pn f g k i):=
 bJ (k:=a+b+3) u0 (by
  have h1:=Ls c h k i;have j:i*2^(a+b)<=8*2^(a+b):=zJa _ u0
  rw[z5a];omega)
def Mw{g:Nat->Int}{d e b:Nat}(c:S f d a)(h:S g e b)(l:a+b<=480)(i j:Nat):In (f i*g j):=
 bJ (k:=a+b) u0 (bK (c.2 i) (h.2 j) (zja _))
theorem aeM(n:Nat){g:Nat->Int}{d e b:Nat}(c:S f d a)(l:S g e b)(u:d+e<=3)(m:a+b<=480)(h1:0<(K f).length)(t:0<(K g).length){k:Nat}(hk:k<(K f).length+(K g).length-1) :
  C (n+5) 563 [I (k:Int),ar g,ar f]=some (R (bA f g k)):=by
 have l1:=dI c u0;have v:=dI l u0
 have p:bA f g k=pn f g k (min k ((K f).length-1)+1):=by
  by_cases h:k<=(K f).length-1
  ·rw[zsb h];rfl
  ·rw[Nat.min_eq_right u0]
   have:=S4 (f:=f) (g:=g) (k:=k) (i1:=(K f).length-1+1) (λj q=>nD c u0 u0) (k-((K f).length-1))
   rw[<-this];show pn f g k (k+1)=_;grind
 rw[ahn];delta P9 P qS qX iL iR J0 J1 bF jl qc qj Z qy;refine J ((K g).map R) (O (z:=I ((k:Int)-(K g).length)) (by rw[zka];exact bW (by simp only[inR];omega)) (O (ay (by simp only[inR];omega)) (O (z:=I ((k+1-(K g).length:Nat):Int)) ?_ ?_)))
 ·rw[show D.max2 (.int .i64 0) (I ((k:Int)-(K g).length+1))=some (I (max 0 ((k:Int)-(K g).length+1))) from sB];grind
 rw[p];refine aZ (λi s=>s=[I (i:Int),R (pn f g k i)]/\k+1-(K g).length<=i) (min k ((K f).length-1)+1) (k+1-(K g).length) u0 ?_ (λi hi s o=>?_) (λs o=>?_)
 ·refine⟨?_,zja _⟩;rw[S5 (k+1-(K g).length) λj q=>nD l u0 u0,rt]
 ·obtain⟨rfl,r⟩:=o;left;refine⟨_,?_,rfl,u0⟩
  refine J ((K f).map R) (O (z:=I ((K f).length-1:Nat)) (by rw[zka];exact th h1 u0) (O (z:=I (min k ((K f).length-1):Nat)) ?_ (O ja (O ac (au u0 ?_)))))
  ·grind [Mo]
  refine J ((K f).map R) (O (kG u0) (O (jS u0) (O (z:=I ((k-i:Nat):Int)) (by show akk .sub (I (k:Int)) (I (i:Int))=_;rw[bW (by simp only[inR];omega)];congr 2;omega) ?_)))
  refine J ((K g).map R) (O (kG u0) (O (jS u0) ?_))
  rw[bN c u0,bN l u0]
  refine O (js (n+1) (o8 c u0 i) (o8 l u0 _) (Mw c l m _ _)) (O (rH n (SZ c l m u0) (Mw c l m _ _) (SZ c l m (i:=i+1) u0)) (O (ay (aw (i:=i) u0)) rfl))
 ·obtain⟨rfl,_⟩:=o;refine⟨_,J ((K f).map R) (O (z:=I ((K f).length-1:Nat)) (by rw[zka];exact th h1 u0) (O (z:=I (min k ((K f).length-1):Nat)) ?_ (O ja (O ac (aB u0 rfl))))),rfl⟩
  grind [Mo]
def UD{g:Nat->Int}{d e b:Nat}(j:S f d a)(l:S g e b)(c:d+e<=3)(h1:0<(K f).length)(n:0<(K g).length) :
  bL ((List.range ((K f).length+(K g).length-1)).map (bA f g))=K (bA f g):=
 yP (S.mul j l c) c λk=>by
  rw[dj];split
  ·rfl
  ·rename_i h;have m:∀ i,i<=k+1->pn f g k i=0:=λi=>by
    induction i with
    | zero=>intro _;rfl
    | succ i ih=>
     intro hi;show pn f g k i+f i*g (k-i)=0;rw[ih u0]
     by_cases hc:(K f).length<=i
     ·rw[nD j u0 hc];simp
     ·rw[nD l u0 (k:=k-i) u0];simp
   exact(m _ (zja _)).symm
def Lm{d b:Nat}(h:S f d b)(a:d<=3)(h0:(K f).length=0):f=λ_=>0:=funext λk=>nD h a u0
theorem Rs{f g:Nat->Int}(h:f=(λ_=>0)\/g=λ_=>0):K (bA f g)=[]:=by
 have e:∀ k,bA f g k=0:=λk=>by
  show pn f g k (k+1)=0;generalize k+1=m
  induction m with
  | zero=>rfl
  | succ m ih=> show pn f g k m+f m*g (k-m)=0;grind
 unfold K;rw[e,e,e,e];rfl
def QK(n:Nat){g:Nat->Int}{d e b:Nat}(c:S f d a)(j:S g e b)(o:d+e<=3)(q:a+b<=480):C (n+6) 534 [ar f,ar g]=some (ar (bA f g)):=by
 have l1:=dI c u0;have r:=dI j u0
 rw[ahc];delta PW P qC qT qS qX qV qW iL iR Jn J0 J1 bq jl qA qO qc qj Z qn qr qu qy;refine s8 (rG (n+2) (fr c u0) u0) (rG (n+2) (fr j u0) u0) ?_
 have hq:∀ l:List Int,D.truth (.bool (D.beq (.int .i64 (l.map R).length) (.int .i64 0)))=some (decide (l.length=0)):=λl=>by
  rw[ac,zka,show D.beq (.int .i64 (l.length:Int)) (.int .i64 0)=decide ((l.length:Int)=0) from ci]
  simp_all
 refine J ((K f).map R) (O (hq _) (O (z:=decide ((K f).length=0\/(K g).length=0)) ?_ (O ac ?_)))
 ·by_cases h:(K f).length=0
  ·simp_all
  ·rw[zfa h,zia H]
   refine J ((K g).map R) ?_
   simp_all
 by_cases h0:(K f).length=0\/(K g).length=0
 ·refine au h0 ?_;rw[show ar (bA f g)=aE (K (bA f g)) from rfl,Rs (f:=f) (g:=g) (h0.imp (Lm c u0) (Lm j u0))];rfl
 refine aB h0 ?_;have h1:0<(K f).length:=u0
 have p:0<(K g).length:=u0
 refine J ((K f).map R) (J ((K g).map R) (O (z:=I (((K f).length+(K g).length:Nat):Int)) ?_ (O (z:=I (((K f).length+(K g).length-1:Nat):Int)) (th u0 u0) (O (jr _) (O (vX _) ?_)))))
 ·rw[zka,zka,zid];exact ay (by simp only[inR];omega)
 rw[zla u0]
 refine O (jr _) ?_;have m:∀ k,In (bA f g k):=λk=>o8 (S.mul c j o) u0 k
 refine(Uc (n+2) ((K f).length+(K g).length-1) (bA f g) (λk _=>m k) u0 (rest:=[ar f,ar g]) (λi hi=>?_) ?_).trans ?_
 ·exact O jq (O ac (au hi (O (aeM n c j o q h1 p hi) (Wq (n+2) (m i) (by simp;omega) u0 _ _))))
 ·exact O jq (O ac (aB u0 rfl))
 ·rw[UD c j o h1 p];rfl
end
section
variable{f:Nat->Int}
def mJ(b s:Bool)(f:Nat->Int):D:=.st [.bool b,.bool s,cK 16 f]
def zR(f:Nat->Int)(k:Nat):Bool:=(List.range k).all λi=>decide (f i=0)
def SJ(f:Nat->Int)(k:Nat):zR f (k+1)=(zR f k&&decide (f k=0)):=by simp[zR,zyb]
def yc(b s:Bool)(f:Nat->Int):Bool:=if b then zR f 16&&!s else !(zR f 16)||!s
def W7(n:Nat)(b s:Bool)(f:Nat->Int):C (n+1) 139 [mJ b s f]=some (.bool (yc b s f)):=by
 rw[Ys];delta Ka Q qT qN iL iR Jn J0 bT bq qc qe qi qj qt qy qz;refine cH (λi st=>st=[.bool (zR f i),I (i:Int)]) 16 0 (zoa _) rfl (λi hi st a=>?_) (λst a=>?_)
 ·subst a;left;refine⟨_,?_,rfl⟩;refine O ah (O ac (au (by show(i:Int)<16;omega) (O ac (O (z:=zR f (i+1)) ?_ (O (ay (aw (i:=i) u0)) rfl)))))
  rw[SJ];cases zR f i with
  | false=>rfl
  | true=>
   refine fW (O (aj hi) (O (z:=.int .u32 (f i)) ?_ ?_))
   ·have c:D.get (mJ b s f) [2,i]=D.get (cK 16 f) [i]:=rfl;rw[c,bG _ hi]
   ·show D.truth (D.bool (D.beq (D.int .u32 (f i)) (D.int .u32 0)))=_;refine Eq.trans ac ?_;simp[D.beq]
 ·subst a;refine⟨(0,[.bool (zR f 16)]),O ah (O ac (aB H rfl)),?_⟩
  unfold yc;generalize zR f 16=z;cases b<;>cases s<;>cases z<;>rfl
def BL(f:Nat->Int):Nat->Nat
 | 0=>0
 | k+1=>BL f k+(f k).toNat *2^(32*k)
theorem BM(h:∀ i,i<16->0<=f i/\f i<4294967296):∀ k,k<=16->BL f k<2^(32*k)
 | 0,_=>by simp[BL]
 | k+1,hk=>by
  have ih:=BM h k u0
  have a:=h k u0
  have e:2^(32*(k+1))=4294967296*2^(32*k):=s6
  show BL f k+(f k).toNat *2^(32*k)<_;rw[e];have:((f k).toNat+1)*2^(32*k)<=4294967296*2^(32*k):=zJa _ u0
  grind
theorem xK(h:∀ i,i<16->0<=f i/\f i<4294967296):∀ k,k<=16->∀ i,i<k->BL f k/2^(32*i)%4294967296=(f i).toNat
 | 0,_,i,hi=>u0
 | k+1,hk,i,hi=>by
  have ih:=xK h k u0 i
  have c:=h k u0
  have b:=BM h k u0
  show(BL f k+(f k).toNat *2^(32*k))/2^(32*i)%4294967296=_;by_cases e:i=k
  ·simp_all [zsc,Nat.pow_pos,decide,zcb,zbb,z0a]
  ·have a:(f k).toNat *2^(32*k)=(f k).toNat *2^(32*(k-i-1))*4294967296*2^(32*i):=by
    rw[zkb,zkb,<-zkb (2^_),show(4294967296:Nat)=2^32 from rfl,<-z5a,<-z5a];grind
   rw[a,zsc _ _ (Nat.pow_pos H),zjd]
   omega
def Gg(f:Nat->Int):zR f 16=true↔∀ i,i<16->f i=0:=by simp only[zR,zya,zRa,zea]
theorem Sn(h:∀ i,i<16->0<=f i/\f i<4294967296):cK 16 f=LM (BL f 16):=dL λi hi=>by rw[fA,xK h 16 (zja _) i hi];grind
theorem VJ{b s:Bool}(h:∀ i,i<16->0<=f i/\f i<4294967296)(hk:yc b s f=true):∃ a:Option Int,vV a/\mJ b s f=fM a/\a.isSome=!b:=by
 cases b with
 | true=>
  simp only[yc,if_true,X,zEa] at hk;obtain⟨h1,rfl⟩:=hk;refine⟨none,rB,?_,rfl⟩;show D.st [.bool true,.bool false,cK 16 f]=EA;rw[dL (g:=bM 0) λi hi=>by rw[(Gg f).1 h1 i hi,lw]]
  rfl
 | false=>
  have ht:BL f 16<eN:=by rw[gT,dV];exact BM h 16 (zja _)
  obtain⟨l,c⟩:∃ l,BL f 16=l:=⟨_,rfl⟩;have j:=Sn h;rw[c] at ht j;have k:s=true->l≠0:=λd h0=>by
   subst d;have:zR f 16=true:=(Gg f).2 λi hi=>by have e:=xK h 16 (zja _) i hi;grind [Nat.zero_div,Nat.zero_mod]
   simp_all [yc]
  refine⟨some (if s then -(l:Int) else l),bn ?_,?_,rfl⟩
  ·grind [aD]
  ·show D.st [.bool false,.bool s,cK 16 f]=R _;grind [bS]
end
def Uw(n:Nat)(b s:Bool)(f:Nat->Int):C (n+2) 76 [mJ b s f]=some (.bool (yc b s f&&!b)):=by
 rw[u76];delta WE Q qT qe Z qz;refine O (W7 n b s f) (O ac ?_);cases yc b s f with
 | false=>rfl
 | true=>cases b<;>rfl
structure RawR where
 b:Bool
 s:Bool
 f:Nat->Int
 c:Bool
 t:Bool
 g:Nat->Int
def RawR.enc(r:RawR):D:=.st [mJ r.b r.s r.f,mJ r.c r.t r.g]
def RawR.ok(r:RawR):Prop:=(∀ i,i<16->0<=r.f i/\r.f i<4294967296)/\∀ i,i<16->0<=r.g i/\r.g i<4294967296
def vL{b s:Bool}{f:Nat->Int}(h:∀ i,i<16->0<=f i/\f i<4294967296)(hk:(yc b s f&&!b)=true):∃ x,In x/\mJ b s f=R x:=by
 simp only[X,zEa] at hk;obtain⟨a,h1,d,c⟩:=VJ h hk.1;rw[hk.2] at c;cases a with
 | none=>cases c
 | some x=>exact⟨x,h1.some,d⟩
def G0{x d:Int}(b:0<d)(a:Nat.gcd x.natAbs d.natAbs=1):∃ q:Rat,q.num=x/\(q.den:Int)=d:=by
 refine⟨⟨x,d.natAbs,u0,a⟩,rfl,?_⟩
 grind
def KG{g:Nat}(b:In (g:Int))(h:D.beq (R (g:Int)) (R 1)=true):g=1:=by rw[bS,bS] at h;simp only[D.beq,D.beqs,X] at h;have a:=h.2.2.1;have i1:=bB (cj 1);rw[kX (aD.1 b) (aD.1 i1),zea] at a;simpa using a
def ae0(n:Nat){r:RawR}(h:r.ok):∃ v:Bool,C (n+5) 88 [r.enc]=some (.bool v)/\(v=true->∃ q,InR q/\r.enc=av q):=by
 obtain⟨b,s,f,c,t,g⟩:=r;obtain⟨o,p⟩:=h;by_cases k1:(yc b s f&&!b)=true
 ·by_cases k2:(yc c t g&&!c)=true
  ·obtain⟨x,a,ex⟩:=vL o k1;obtain⟨d,id,l⟩:=vL p k2;have m:RawR.enc ⟨b,s,f,c,t,g⟩=.st [R x,R d]:=by
    show D.st [mJ b s f,mJ c t g]=_;rw[ex,l]
   rw[m];by_cases hd:0<d
   ·refine⟨D.beq (R (Nat.gcd x.natAbs d.natAbs:Nat)) (R 1),?_,λu=>?_⟩
    ·rw[Zu];delta T1 Q qC qN J0 bF bq qO qe Z qz;refine J (R x) (O (Ih (n+2) a) (O aJ (O ac (O (z:=false) (A1 (J (R d) (O (Ih (n+2) id) rfl))) (O ac (A1 ?_))))));refine J (R d) (O (c83 (n+1) id) (O cn (O ac (O (au (by rw[gQ hd];decide) (J (R x) (J (R d) (O (aeY n a id) (O (adV n) ac))))) rfl))))
    ·have e:=KG (by
      rw[aD,zha];exact zLa (zed u0 (zpb _ _)) (aD.1 id)) u
     obtain⟨q,q1,k⟩:=G0 hd e;exact⟨q,⟨by rw[q1];exact a,by rw[k];exact id⟩,by unfold av;rw[q1,k]⟩
   ·refine⟨false,?_,λh=>by cases h⟩
    rw[Zu];delta T1 Q qC qN J0 bF bq qO qe Z qz;refine J (R x) (O (Ih (n+2) a) (O aJ (O ac (O (z:=false) (A1 (J (R d) (O (Ih (n+2) id) rfl))) (O ac (A1 ?_))))));refine J (R d) (O (c83 (n+1) id) (O cn (O ac (O (aB (by unfold sg;split<;>(try split)<;>omega) rfl) rfl))))
  ·refine⟨false,?_,λh=>by cases h⟩
   have j:(yc c t g&&!c)=false:=by simpa using k2
   rw[Zu];delta T1 Q qC qN J0 bF bq qO qe Z qz;refine J (mJ b s f) (O (Uw (n+2) b s f) ?_);rw[k1];refine O aJ (O ac (O (z:=true) (A1 (J (mJ c t g) (O (Uw (n+2) c t g) ?_))) (O ac rfl)));rw[j];rfl
 ·refine⟨false,?_,λh=>by cases h⟩
  have i:(yc b s f&&!b)=false:=by simpa using k1
  rw[Zu];delta T1 Q qC qN J0 bF bq qO qe Z qz;refine J (mJ b s f) (O (Uw (n+2) b s f) ?_);rw[i];exact O aJ (O ac (J true (O ac rfl)))
section
variable{a c h q:Nat->Int}
def iI(m:Nat)(f:Nat->D):D:=.st ((List.range m).map f)
def sQ{m k:Nat}(f:Nat->D)(h:k<m):D.get (iI m f) [k]=some (f k):=by simp[iI,D.get,D.fld,h]
def Bz{m k:Nat}(f:Nat->D)(h:k<m):D.fld (iI m f) k=some (f k):=by simp[iI,D.fld,h]
theorem vM{m i:Nat}{f g:Nat->D}{v:D}(h:i<m)(a:∀ j,j<m->g j=if j=i then v else f j):D.set (iI m f) [i] v=some (iI m g):=by
 have e:((List.range m).map f)[i]?=some (f i):=by simp[h]
 simp only[iI,D.set,e,zba];congr 2;apply zOb;all_goals grind
def rl(z:D)(p:Nat->D)(i:Nat):Nat->D:=λk=>if k<i then p k else z
theorem od{m i:Nat}{z:D}{p:Nat->D}(h:i<m):D.set (iI m (rl z p i)) [i] (p i)=some (iI m (rl z p (i+1))):=
 vM h λj _=>by unfold rl;grind
def lY(m:Nat)(z:D)(p:Nat->D):iI m (rl z p m)=iI m p:=by simp_all [iI,rl]
def dZ:Nat->Int:=λ_=>0
theorem S.zero:S dZ 0 0:=⟨λ_ _=>rfl,λ_=>zoa _⟩
def A3(p q:Nat->Int):Int:=p 0*q 0+p 1*q 1+p 2*q 2+p 3*q 3
def kD(p q:Nat->Int):Int:=if A3 p q<0 then -1 else 1
def Zr{p:Nat->Int}(hp:pe p)(hq:pe q){i j:Nat}(hi:i<4)(a:j<4):-4096<=p i*q j/\p i*q j<=4096:=by
 have:(p i*q j).natAbs<=64*64:=by rw[zwa];exact zFa (hp i hi) (hq j a)
 omega
def aen(n:Nat){p:Nat->Int}(hp:pe p)(hq:pe q):C (n+2) 392 [gG p,gG q]=some (I (A3 p q)):=by
 have a0:=Zr hp hq (i:=0) (j:=0) H H;have a1:=Zr hp hq (i:=1) (j:=1) H H
 have a2:=Zr hp hq (i:=2) (j:=2) H H;have a3:=Zr hp hq (i:=3) (j:=3) H H
 rw[Yz];delta Kh Q Z;refine O (jC (i:=0) H) (O (jC (i:=0) H) (O (jC (i:=1) H) (O (jC (i:=1) H) (O (jC (i:=2) H) (O (jC (i:=2) H) (O (jC (i:=3) H) (O (jC (i:=3) H) ?_)))))))
 exact O (wj n (aF u0) (aF u0) (aF u0) (aF u0) (aF u0) (aF u0) (aF u0)) rfl
def CG(x0:V)(q0:Nat->Int)(x1:V)(q1:Nat->Int):D:=.st [dW x0 q0,dW x1 q1]
def kE(q0 q1:Nat->Int)(i:Nat):Nat->Int:=bP (q0 i) (kD q0 q1*q1 i-q0 i)
theorem R7(p q:Nat->Int){z:Int}{B:Nat}(h:z.natAbs<=B):(kD p q*z).natAbs<=B:=by grind [kD]
theorem Nx{q0 q1:Nat->Int}(h0:pe q0)(h1:pe q1){i:Nat}(hi:i<4):(q0 i).natAbs<=2^7/\(kD q0 q1*q1 i-q0 i).natAbs<=2^7/\inR (kD q0 q1*q1 i)/\inR (kD q0 q1*q1 i-q0 i):=by have e:2^7=128:=rfl;have a:=h0 i hi;have b:=h1 i hi;have c:=R7 q0 q1 b;grind [inR]
def xP{q0 q1:Nat->Int}(h0:pe q0)(h1:pe q1){i:Nat}(hi:i<4):S (kE q0 q1 i) 1 7:=akJ (Nx h0 h1 hi).1 (Nx h0 h1 hi).2.1
def GZ(p:Nat->Nat->Int):D:=iI 4 λi=>ar (p i)
def XB(p:Nat->Nat->Int):D:=iI 3 λi=>ar (p i)
def U4{x0 x1:V}{q0 q1:Nat->Int}{i:Nat}(h:i<4):D.get (CG x0 q0 x1 q1) [1,1,i]=some (I (q1 i)):=jC h
def LV{x0 x1:V}{q0 q1:Nat->Int}{i:Nat}(h:i<3):D.get (CG x0 q0 x1 q1) [0,0,i]=some (I (aX x0 i)):=se h
def LW{x0 x1:V}{q0 q1:Nat->Int}{i:Nat}(h:i<3):D.get (CG x0 q0 x1 q1) [1,0,i]=some (I (aX x1 i)):=se h
def LL{i:Nat}(h:i<4):D.fld (gG q) i=some (I (q i)):=by
 have:i=0\/i=1\/i=2\/i=3:=u0
 rcases this with rfl|rfl|rfl|rfl<;>rfl
theorem Ut(n:Nat){x0 x1:V}{q0 q1:Nat->Int}(h0:pe q0)(h1:pe q1):C (n+5) 530 [CG x0 q0 x1 q1]=some (GZ (kE q0 q1)):=by
 rw[aha];delta PT Q P iL iR Jn J0 J1 qb qc qf qi qj Z qs qy;refine O (z:=(0,[I (kD q0 q1)])) ?_ (J (gG q0) ?_)
 ·refine J (gG q0) (J (gG q1) (O (aen (n+2) h0 h1) (O ah (O ac ?_))));unfold kD;all_goals grind
 refine aZ (λi s=>s=[I (i:Int),iI 4 (rl (.sl []) (λi=>ar (kE q0 q1 i)) i)]) 4 0 (zoa _) rfl (λi hi s c=>?_) (λs c=>?_)
 ·subst c;obtain⟨b1,b2,d,e⟩:=Nx h0 h1 hi;left;refine⟨_,?_,rfl⟩;refine O ah (O ac (au (by show(i:Int)<4;omega) (O (aj hi) (O (LL hi) (O (aj hi) (O (U4 hi) (O (cN d) (O (bW e) (O (Xo n b1 b2 H) (O (aj hi) (O (od (p:=λi=>ar (kE q0 q1 i)) hi) (O (aA (a:=i) (b:=1) u0) rfl))))))))))))
 ·subst c;refine⟨_,O ah (O ac (aB H rfl)),?_⟩
  rw[lY];rfl
def WP(c:Ca)(l:List D):Bd:=λv1=>
 (akk .add (Y v1 1) (.int .i64 1)).bind λj=>(D.asSl (.sl l)).bind λi=>(akk .lss j (.int .i64 i.length)).bind λz=>(D.truth z).bind λh=>
 if h then((D.asSl (.sl l)).bind λg=>(D.idx (Y v1 1) g.length).bind λk=>(g[k]?).bind λm=>(akk .add (Y v1 1) (.int .i64 1)).bind λn=>(D.asSl (.sl l)).bind λa=>(D.idx n a.length).bind λk=>(a[k]?).bind λe=> (c 534 [m,e]).bind λb=>(c 520 [(Y v1 0),b]).bind λd=>(akk .add (Y v1 1) (.int .i64 2)).bind λf=>some (.inl [d,f])) else some (.inr (0,[Y v1 0]))
def Jk(n:Nat){l:List D}(k:Nat){f g h:Nat->Int}{d e a b d' a':Nat}(hl:l.length<=100)(h1:l[k]?=some (ar f))(c:l[k+1]?=some (ar g))(j:S f d a)(m:S g e b)(hh:S h d' a')
  (i:d+e<=3) (r:a+b<=470) (p:d'<=3) (o:a'<=480):WP (C (n+6)) l [ar h,I (k:Int)]=some (.inl [ar (dF h (bA f g)),I ((k+2:Nat):Int)]):=by
 have q:=(zra.1 c).1;exact O (aA (a:=k) (b:=1) u0) (J l (O ah (O ac (au (by show((k+1:Nat):Int)<(l.length:Int);omega) (J l (O (aj u0) (O h1 (O (aA (a:=k) (b:=1) u0) (J l (O (aj q) (O c (O (QK n j m i u0) (O (Ig (n+1) hh (S.mul j m i) u0 u0) (O (aA (a:=k) (b:=2) u0) rfl))))))))))))))
def Xy(n:Nat){l:List D}(k:Nat)(hl:l.length<=100)(hk:l.length=k):WP (C (n+6)) l [ar h,I (k:Int)]=some (.inr (0,[ar h])):=
 O (aA (a:=k) (b:=1) u0) (J l (O ah (O ac (aB (by show ¬ (((k+1:Nat):Int)<(l.length:Int));omega) rfl))))
theorem pP(n:Nat){f1 g1 f2 g2:Nat->Int}(h1:S f1 1 7)(a:S g1 1 7)(c:S f2 1 7)(d:S g2 1 7){z:Int}(e:z.natAbs<=2) :
  C (n+7) 533 [I z,.sl [ar f1,ar g1,ar f2,ar g2]]=some (ar (λk=>(bA f1 g1 k+bA f2 g2 k)*z)):=by
 have i:inR z:=by simp only[inR];omega
 have m1:=S.mul h1 a H;have G:=S.mul c d H
 have s1:=S.add S.zero m1;have s2:=S.add s1 G;rw[YC];delta Kk P qX iL iR J0 J2 qj Z ql qy;refine aL (Jk n 0 (l:=[ar f1,ar g1,ar f2,ar g2]) j2 rfl rfl h1 a (h:=dZ) S.zero H H H H) (aL (Jk n 2 (f:=f2) (g:=g2) j2 rfl rfl c d s1 H H H H) (dS (Xy n 4 j2 rfl) (O (ou (n+4) i) (O (Cl (n+1) (b:=1) s2 e H H) ?_))))
 congr 2;grind [ef,dF,dZ]
def Uu(n:Nat){p:Nat->Nat->Int}(hp:∀ i,i<4->S (p i) 1 7) :
  C (n+7) 533 [I 1,.sl [ar (p 0),ar (p 0),ar (p 1),ar (p 1),ar (p 2),ar (p 2),ar (p 3),ar (p 3)]]=some (ar (λk=>bA (p 0) (p 0) k+bA (p 1) (p 1) k+bA (p 2) (p 2) k+bA (p 3) (p 3) k)):=by
 have h0:=hp 0 H;have h1:=hp 1 H;have a:=hp 2 H;have c:=hp 3 H
 have s1:=S.add S.zero (S.mul h0 h0 H);have s2:=S.add s1 (S.mul h1 h1 H);have d:=S.add s2 (S.mul a a H);have e:=S.add d (S.mul c c H)
 rw[YC];delta Kk P qX iL iR J0 J2 qj Z ql qy;refine aL (Jk n 0 (l:=[ar (p 0),ar (p 0),ar (p 1),ar (p 1),ar (p 2),ar (p 2),ar (p 3),ar (p 3)]) j2 rfl rfl h0 h0 (h:=dZ) S.zero H H H H) (aL (Jk n 2 j2 rfl rfl h1 h1 s1 H H H H) (aL (Jk n 4 j2 rfl rfl a a s2 H H H H) (aL (Jk n 6 j2 rfl rfl c c d H H H H) (dS (Xy n 8 j2 rfl) (O (ou (n+4) (x:=1) (cj 1)) (O (Cl (n+1) (b:=0) e (z:=1) H H H) ?_))))))
 congr 2;funext k;simp[ef,dF,dZ]
def nW(p:Nat->Nat->Int):Nat->Int:=λk=>bA (p 0) (p 0) k+bA (p 1) (p 1) k+bA (p 2) (p 2) k+bA (p 3) (p 3) k
def nM(p:Nat->Nat->Int):Nat->Nat->Int
 | 0=>λk=>bA (p 0) (p 0) k+bA (p 1) (p 1) k-(bA (p 2) (p 2) k+bA (p 3) (p 3) k)
 | 1=>λk=>(bA (p 1) (p 2) k-bA (p 0) (p 3) k)*2
 | 2=>λk=>(bA (p 1) (p 3) k+bA (p 0) (p 2) k)*2
 | 3=>λk=>(bA (p 1) (p 2) k+bA (p 0) (p 3) k)*2
 | 4=>λk=>bA (p 0) (p 0) k+bA (p 2) (p 2) k-(bA (p 1) (p 1) k+bA (p 3) (p 3) k)
 | 5=>λk=>(bA (p 2) (p 3) k-bA (p 0) (p 1) k)*2
 | 6=>λk=>(bA (p 1) (p 3) k-bA (p 0) (p 2) k)*2
 | 7=>λk=>(bA (p 2) (p 3) k+bA (p 0) (p 1) k)*2
 | _=>λk=>bA (p 0) (p 0) k+bA (p 3) (p 3) k-(bA (p 1) (p 1) k+bA (p 2) (p 2) k)
def Rk{p:Nat->Nat->Int}(hp:∀ i,i<4->S (p i) 1 7){g:Nat->Int}(c:∀ k,(∀ i j,i<4->j<4->bA (p i) (p j) k=0)->g k=0)
  (b:∀ k,(∀ i j,i<4->j<4->(bA (p i) (p j) k).natAbs<=65536)->(g k).natAbs<=262144):S g 2 18:=
 ⟨λk hk=>c k λi j hi a=>(S.mul (hp i hi) (hp j a) H).1 k hk,λk=>b k λi j hi a=>(S.mul (hp i hi) (hp j a) H).2 k⟩
def nX{p:Nat->Nat->Int}(hp:∀ i,i<4->S (p i) 1 7):S (nW p) 2 18:=
 Rk hp (λk h=>by
  have:=h 0 0 H H;have:=h 1 1 H H;have:=h 2 2 H H;have:=h 3 3 H H
  simp only[nW];omega) (λk h=>by
  have:=h 0 0 H H;have:=h 1 1 H H;have:=h 2 2 H H;have:=h 3 3 H H
  simp only[nW];omega)
def akI{b d:Nat->Int}(f:S a 2 16)(g:S b 2 16)(hc:S c 2 16)(h:S d 2 16):S (λk=>a k+b k-(c k+d k)) 2 18:=
 ⟨λk hk=>by simp only[f.1 k hk,g.1 k hk,hc.1 k hk,h.1 k hk];rfl,λk=>by have e:2^16=65536:=rfl;have:=f.2 k;have:=g.2 k;have:=hc.2 k;have:=h.2 k;show(a k+b k-(c k+d k)).natAbs<=262144;omega⟩
def akH{b:Nat->Int}(c:S a 2 16)(d:S b 2 16):S (λk=>(a k-b k)*2) 2 18:=
 ⟨λk hk=>by simp only[c.1 k hk,d.1 k hk];rfl,λk=>by have e:2^16=65536:=rfl;have:=c.2 k;have:=d.2 k;show((a k-b k)*2).natAbs<=262144;omega⟩
def akL{b:Nat->Int}(c:S a 2 16)(d:S b 2 16):S (λk=>(a k+b k)*2) 2 18:=
 ⟨λk hk=>by simp only[c.1 k hk,d.1 k hk];rfl,λk=>by have e:2^16=65536:=rfl;have:=c.2 k;have:=d.2 k;show((a k+b k)*2).natAbs<=262144;omega⟩
def Fc{p:Nat->Nat->Int}(hp:∀ i,i<4->S (p i) 1 7)(j:Nat):S (nM p j) 2 18:=by
 have m:∀ {i j},i<4->j<4->S (bA (p i) (p j)) 2 16:=λhi a=>S.mul (hp _ hi) (hp _ a) H
 unfold nM;split
 ·exact akI (m H H) (m H H) (m H H) (m H H)
 ·exact akH (m H H) (m H H)
 ·exact akL (m H H) (m H H)
 ·exact akL (m H H) (m H H)
 ·exact akI (m H H) (m H H) (m H H) (m H H)
 ·exact akH (m H H) (m H H)
 ·exact akH (m H H) (m H H)
 ·exact akL (m H H) (m H H)
 ·exact akI (m H H) (m H H) (m H H) (m H H)
def aeF(n:Nat){x0 x1:V}{q0 q1:Nat->Int}(h0:pe q0)(h1:pe q1):C (n+8) 531 [CG x0 q0 x1 q1]=some (ar (nW (kE q0 q1))):=by rw[ahb];delta PU Q J1 Z;have g:∀ i,i<4->D.get (GZ (kE q0 q1)) [i]=some (ar (kE q0 q1 i)):=λi hi=>sQ _ hi;exact O (Ut (n+2) h0 h1) (O (g 0 H) (O (g 0 H) (O (g 1 H) (O (g 1 H) (O (g 2 H) (O (g 2 H) (O (g 3 H) (O (g 3 H) (O (Uu n λi hi=>xP h0 h1 hi) rfl)))))))))
def En(p:Nat->Nat->Int)(x0 x1 v:V)(i:Nat):Nat->(Nat->Int)
 | 0=>bA (nW p) (bP (aX x0 i) (aX x1 i-aX x0 i))
 | k+1=>dF (En p x0 x1 v i k) (ef (nM p (3*i+k)) (aX v k))
def fH(p:Nat->Nat->Int)(x0 x1 v:V)(i:Nat):Nat->Int:=En p x0 x1 v i 3
def ls{v:V}{B:Int}(h:bd B v){i:Nat}(hi:i<3):-B<=aX v i/\aX v i<=B:=by
 have:i=0\/i=1\/i=2:=u0
 rcases this with rfl|rfl|rfl
 ·exact h.1
 ·exact h.2.1
 ·exact h.2.2
theorem Gc{p:Nat->Nat->Int}(hp:∀ i,i<4->S (p i) 1 7){x0 x1 v:V}(h0:bd 1000 x0)(h1:bd 1000 x1)(d:bd 4096 v){i:Nat}(hi:i<3):∀ k,k<=3->S (En p x0 x1 v i k) 3 (31+k)
 | 0,_=>by have a:=ls h0 hi;have b:=ls h1 hi;exact S.mul (nX hp) (akJ (n:=11) (by show _<=2048;omega) (by show _<=2048;omega)) H
 | k+1,hk=>by
  have c:=ls d (i:=k) u0
  exact(S.add (Gc hp h0 h1 d hi k u0) (akK (b:=12) (Fc hp (3*i+k)) (by show _<=4096;omega))).mono H u0
def yX(p:Nat->Nat->Int)(x0 x1 v:V):D:=XB (fH p x0 x1 v)
theorem Bo(f g:Nat->Int)(k:Nat):bA (ef f (-1)) g k=-bA f g k:=by
 show pn (ef f (-1)) g k (k+1)=-pn f g k (k+1);generalize k+1=m
 induction m with
 | zero=>rfl
 | succ m ih=> show pn (ef f (-1)) g k m+f m*(-1)*g (k-m)=-(pn f g k m+f m*g (k-m));grind
theorem Xl(n:Nat){x0 x1 v:V}{q0 q1:Nat->Int}(h0:pe q0)(h1:pe q1)(b0:bd 1000 x0)(b1:bd 1000 x1)(t:bd 4096 v) :
  C (n+9) 505 [CG x0 q0 x1 q1,ag v]=some (.tup [yX (kE q0 q1) x0 x1 v,ar (nW (kE q0 q1))]):=by
 have hp:∀ i,i<4->S (kE q0 q1 i) 1 7:=λi hi=>xP h0 h1 hi;have g:∀ i,i<4->D.get (GZ (kE q0 q1)) [i]=some (ar (kE q0 q1 i)):=λi hi=>sQ _ hi;rw[agZ];delta PI Q P qJ iL iR Jn J0 J1 J2 J3 qc qf qi qj Z qs qy;refine O (Ut (n+3) h0 h1) (O (aeF n h0 h1) (O (g 0 H) (O (g 1 H) (O (g 2 H) (O (g 3 H) ?_)))))
 clear g;revert hp;generalize kE q0 q1=p;intro hp;have p0:=hp 0 H;have p1:=hp 1 H;have d:=hp 2 H;have f:=hp 3 H
 have pm:S (ef (p 0) (-1)) 1 7:=akK (b:=0) p0 H
 have o:∀ {f1 f2:Nat->Int},S f1 1 7->S f2 1 7->C (n+8) 533 [I 1,.sl [ar f1,ar f1,ar f2,ar f2]]=some (ar (dF (bA f1 f1) (bA f2 f2))):=λa b=>by
  rw[pP (n+1) a a b b (z:=1) H]
  congr 2;funext k;simp[dF]
 have l:∀ {f1 f2:Nat->Int},S f1 1 7->S f2 1 7->S (dF (bA f1 f1) (bA f2 f2)) 2 17:=λa b=>S.add (S.mul a a H) (S.mul b b H)
 refine O (ou (n+6) (x:=-1) (cj (-1))) (O (Cl (n+3) (b:=0) p0 (z:=-1) H H H) ?_)
 refine O (o p0 p1) (O (o d f) (O (z:=ar (nM p 0)) (QJ (n+2) (l p0 p1) (l d f) H H) ?_))
 refine O (z:=ar (nM p 1)) ?_ (O (z:=ar (nM p 2)) (pP (n+1) p1 f p0 d H) (O (z:=ar (nM p 3)) (pP (n+1) p1 d p0 f H) ?_))
 ·refine(pP (n+1) p1 d pm f (z:=2) H).trans ?_
  congr 2;funext k;rw[Bo];simp only[nM];omega
 refine O (o p0 d) (O (o p1 f) (O (z:=ar (nM p 4)) (QJ (n+2) (l p0 d) (l p1 f) H H) ?_))
 refine O (z:=ar (nM p 5)) ?_ (O (z:=ar (nM p 6)) ?_ (O (z:=ar (nM p 7)) (pP (n+1) d f p0 p1 H) ?_))
 ·refine(pP (n+1) d f pm p1 (z:=2) H).trans ?_
  congr 2;funext k;rw[Bo];simp only[nM];omega
 ·refine(pP (n+1) p1 f pm d (z:=2) H).trans ?_
  congr 2;funext k;rw[Bo];simp only[nM];omega
 refine O (o p0 f) (O (o p1 d) (O (z:=ar (nM p 8)) (QJ (n+2) (l p0 f) (l p1 d) H H) ?_))
 refine aZ (λi s=>s=[I (i:Int),iI 3 (rl (.sl []) (λi=>ar (fH p x0 x1 v i)) i)]) 3 0 (zoa _) rfl (λi hi s q=>?_) (λs q=>?_)
 ·subst q;have a:=ls b0 hi;have b:=ls b1 hi;left;refine⟨_,?_,rfl⟩;refine O ah (O ac (au (by show(i:Int)<3;omega) (O (aj hi) (O (LV hi) (O (aj hi) (O (LW hi) (O (aj hi) (O (LV hi) (O (bW (by simp only[inR];omega)) ?_)))))))))
  refine O (Xo (n+4) (m:=11) (by show _<=2048;omega) (by show _<=2048;omega) H) (O (QK (n+2) (nX hp) (akJ (n:=11) (by show _<=2048;omega) (by show _<=2048;omega)) H H) (O (aj hi) (O (vM (g:=λj=>if j<i then ar (fH p x0 x1 v j) else if j=i then ar (En p x0 x1 v i 0) else .sl []) hi λj _=>by unfold rl;by_cases h:j=i<;>simp[h,En]) ?_)))
  refine O (z:=(0,[iI 3 (rl (.sl []) (λi=>ar (fH p x0 x1 v i)) (i+1))])) ?_ (O (aA (a:=i) (b:=1) u0) rfl)
  refine eP (λk s=>s=[I (k:Int),iI 3 (λj=>if j<i then ar (fH p x0 x1 v j) else if j=i then ar (En p x0 x1 v i k) else .sl [])]) 3 rfl (λk hk s r=>?_) (λs r=>?_)
  ·subst r;have c:=ls t hk;refine⟨_,?_,rfl⟩;refine O ah (O ac (au (by show(k:Int)<3;omega) (O (aj hk) (O (jX hk) (O (aj hi) (O (sQ _ hi) ?_))))))
   rw[zia u0,zla rfl]
   refine O (z:=I ((3*i:Nat):Int)) (by rw[z1a];exact cN (a:=3) (by simp only[inR];omega)) (O (aA (a:=3*i) (b:=k) u0) (O (aj u0) (O (z:=ar (nM p (3*i+k))) ?_ ?_)))
   ·exact sQ (m:=9) (λj=>ar (nM p j)) u0
   refine O (ou (n+6) (by simp only[inR];omega)) (O (Cl (n+3) (b:=12) (Fc hp _) (by show _<=4096;omega) H H) (O (Ig (n+3) (Gc hp b0 b1 t hi k u0) (akK (b:=12) (Fc hp _) (by show _<=4096;omega)) H u0) ?_))
   refine O (aj hi) (O (vM (g:=λj=>if j<i then ar (fH p x0 x1 v j) else if j=i then ar (En p x0 x1 v i (k+1)) else .sl []) hi λj _=>?_) (O (aA (a:=k) (b:=1) u0) rfl))
   by_cases h:j=i
   ·subst h;rw[zia u0,zla rfl,zla rfl];rfl
   ·simp[h]
  ·subst r;refine O ah (O ac (aB H ?_))
   have e:(λj=>if j<i then ar (fH p x0 x1 v j) else if j=i then ar (En p x0 x1 v i 3) else D.sl [])=rl (.sl []) (λi=>ar (fH p x0 x1 v i)) (i+1):=by funext j;unfold rl fH;grind
   rw[e];rfl
 ·subst q;refine⟨_,O ah (O ac (aB H rfl)),?_⟩
  rw[lY];rfl
end
section
variable{f:Nat->Int}{l:List Int}{a q:Rat}
def kL(l:List Int):Nat:=l.foldl (λg x=>Nat.gcd g x.natAbs) 0
def wS(l:List Int)(x:Int):kL (l++[x])=Nat.gcd (kL l) x.natAbs:=by simp[kL]
theorem AT(h:Kn l):∀ k,k<=l.length->In (kL (l.take k):Nat)
 | 0,_=>In0
 | k+1,hk=>by
  have ih:=AT h k u0
  rw[zxa u0,wS]
  have hx:=h l[k] (zGa u0)
  by_cases h0:kL (l.take k)=0
  ·rw[h0,Nat.gcd_zero_left];exact Cb hx j2
  ·exact Cb ih (by rw[zha,zha];exact Nat.gcd_le_left _ (Nat.pos_of_ne_zero h0))
def sa:∀ x∈l,((kL l:Nat):Int) ∣ x:=by
 suffices h:∀ (l:List Int) (g:Nat),((l.foldl (λg x=>Nat.gcd g x.natAbs) g:Nat) ∣ g)/\∀ x∈l,(l.foldl (λg x=>Nat.gcd g x.natAbs) g:Nat) ∣ x.natAbs by intro x hx;exact zfb.2 ((h l 0).2 x hx)
 intro l
 induction l with
 | nil=>intro g;exact⟨Nat.dvd_refl _,λx hx=>by cases hx⟩
 | cons y l ih=>
  intro g;obtain⟨h1,a⟩:=ih (Nat.gcd g y.natAbs);refine⟨zCc h1 (zhb _ _),λx hx=>?_⟩;rcases zOa.1 hx with rfl|hx
  ·exact zCc h1 (zpb _ _)
  ·exact a x hx
def LR{x:Int}(hx:x∈l)(h0:x≠0):kL l≠0:=λe=>by
 have:=sa x hx
 simp_all
def Xq(n:Nat)(h:Kn l)(hl:l.length<=1000):C (n+1030) 551 [aE l]=some (R (kL l:Nat)):=by
 rw[ahl];delta P8 qS qX iL iR J0 bF jl qc qj Z qy;refine J (l.map R) ?_;refine aZ (λi s=>s=[I (i:Int),R (kL (l.take i):Nat)]) l.length 0 (zoa _) (by rw[rt];rfl) (λi hi s a=>?_) (λs a=>?_)
 ·subst a;left;refine⟨_,?_,rfl⟩;refine O o9 (O ac (au hi (J (l.map R) (O (kG hi) (O (jS hi) (O (wh n (AT h i u0) (gH h i)) (O (ay (aw (i:=i) u0)) ?_)))))))
  rw[zxa hi,wS,zha,show l.getD i 0=l[i] from by rw[zDa,zda hi];rfl];rfl
 ·subst a;refine⟨_,O o9 (O ac (aB u0 rfl)),?_⟩
  simp_all
def ve(f:Nat->Int):Nat->Int:=λk=>f k/(kL (K f):Nat)
def S.pri{d b:Nat}(a:S f d b):S (ve f) d b:=
 ⟨λk hk=>by show f k/_=0;rw[a.1 k hk,Int.zero_ediv],λk=>zva (Int.natAbs_ediv_le_natAbs _ _) (a.2 k)⟩
def QU{d b:Nat}(a:S f d b)(c:d<=3)(h:0<(K f).length):f ((K f).length-1)≠0:=by
 have:=xO [f 0,f 1,f 2,f 3] (zYc.1 h)
 rwa [rZ _ _ _ _ _ f rfl rfl rfl rfl λk hk=>a.1 k u0] at this
def GP{d b:Nat}(c:S f d b)(a:d<=3){k:Nat}(h:k<(K f).length):f k∈K f:=by rw[<-bN c a k,zDa,zda h];exact zGa h
def U2{d b:Nat}(c:S f d b)(a:d<=3)(h:0<(K f).length):kL (K f)≠0:=
 LR (GP c a (k:=(K f).length-1) u0) (QU c a h)
def aeS(n:Nat){x g:Int}(d:D)(hx:In x)(b:In g)(h0:g≠0)(a:g ∣ x):C (n+7) 580 [R x,d,R g]=some (R (x/g)):=by rw[aht];unfold Qf;exact O (u5 n hx b h0 a) rfl
def UE{d b:Nat}(c:S f d b)(a:d<=3):bL ((List.range (K f).length).map λk=>(K f).getD k 0/(kL (K f):Nat))=K (ve f):=
 yP (S.pri c) a λk=>by
  rw[dj];split
  ·rw[bN c a];rfl
  ·show 0=f k/_;rw[nD c a u0,Int.zero_ediv]
def aeQ(n:Nat){d b:Nat}(a:S f d b)(e:d<=3)(h:b<=480):C (n+1031) 572 [ar f]=some (ar (ve f)):=by
 have l1:=dI a u0
 have hL:=fr a u0
 rw[ahr];delta Qd P qC qT qS qX qV qW iL iR Jn J0 J1 bq jl qA qO qc qj Z qn qr qu qy;refine O (Xq n hL u0) ?_
 refine s8 (m:=[]) (rG (n+1027) hL u0) (rG (n+1027) (λx hx=>by cases hx) j2) ?_
 refine J ((K f).map R) (O (Kw _) (O (jr _) (O (vX _) ?_)));rw[zla u0]
 refine O (jr _) ?_;have c:∀ k,In (ve f k):=λk=>o8 (S.pri a) u0 k
 have g:In (kL (K f):Nat):=by have:=AT hL _ (zja _);rwa [z8a] at this
 refine(Uc (n+1027) (K f).length (λk=>(K f).getD k 0/(kL (K f):Nat)) (λk _=>by rw[bN a u0];exact c k) u0 (rest:=[R (kL (K f):Nat),ar f,.sl []]) (λi hi=>?_) ?_).trans ?_
 ·refine O jq (O ac (au hi (O (Az (n+1029) (K f) i) (O (Az (n+1029) [] i) (O (aeS (n+1023) _ (gH hL i) g ?_ ?_) ?_)))))
  ·have:=U2 a e u0;omega
  ·rw[bN a e];exact sa _ (GP a e hi)
  ·exact Wq (n+1027) (by rw[bN a u0];exact c i) (by simp;omega) u0 _ _
 ·exact O jq (O ac (aB u0 rfl))
 ·rw[UE a e];rfl
def tf(d:Int)(m:Nat):List Int:=(List.range m).map λk=>d^k
def vK{d:Int}{m k:Nat}(h:k<m):(tf d m).getD k 0=d^k:=by unfold tf;rw[dj,zla h]
def jK(d:Int)(m:Nat):(tf d m).length=m:=by simp[tf]
def DE{d:Int}{b:Nat}(a:d.natAbs<=2^b)(k:Nat):(d^k).natAbs<=2^(b*k):=by rw[Int.natAbs_pow,Nat.pow_mul];exact Nat.pow_le_pow_left a k
def sK{d:Int}{b k:Nat}(c:d.natAbs<=2^b)(a:b<=100)(hk:k<=4):In (d^k):=
 bJ (k:=b*k) (by have:b*k<=100*4:=zFa a hk;omega) (DE c k)
def Xr(n:Nat){d:Int}{b m:Nat}(c:d.natAbs<=2^b)(e:b<=100)(hm:m<=4):C (n+4) 565 [R d,I (m:Int)]=some (aE (tf d (max m 1))):=by
 rw[ahp];delta Qb P qV qW iL iR Jn J1 qc qi Z qu qy;refine O (ou (n+1) (x:=1) (cj 1)) ?_;refine aZ (λi s=>s=[aE (tf d (i+1))]) (max m 1-1) 0 (zoa _) (by rw[show tf d (0+1)=[1] from by simp[tf]];rfl) (λi hi s a=>?_) (λs a=>?_)
 ·subst a;left;refine⟨_,?_,rfl⟩;have el:((aE (tf d (i+1))).els).length=i+1:=by simp[aE,D.els,jK]
  have f:akk .sub (.int .i64 (((aE (tf d (i+1))).els).length:Int)) (.int .i64 1)=some (I (i:Int)):=by rw[el,th u0 u0,Nat.add_sub_cancel]
  have q1:akk .lss (.int .i64 (((aE (tf d (i+1))).els).length:Int)) (I (m:Int))=some (.bool (decide (i+1<m))):=by rw[el];exact jq
  have g:D.idx (I (i:Int)) ((aE (tf d (i+1))).els).length=some i:=by rw[el];exact aj u0
  have h:((aE (tf d (i+1))).els).length+[R (d^i*d)].length<=1073741824:=by rw[el];simp;omega
  refine O q1 (O ac (au u0 (O f (O g ?_))))
  refine O (z:=R (d^i)) ?_ (O (js n (sK c e u0) (bJ (k:=b) u0 c) (by rw[<-Int.pow_succ];exact sK c e u0)) ?_)
  ·have:=jS (l:=tf d (i+1)) (i:=i) (by rw[jK];omega)
   rw[vK u0] at this
   exact this
  ·refine(zla h).trans ?_;rw[<-Int.pow_succ];have:(aE (tf d (i+1))).els++[R (d^(i+1))]=(tf d (i+1+1)).map R:=by
    unfold tf;rw[zyb (n:=i+1),zib,zib];rfl
   show some (Sum.inl [D.sl ((aE (tf d (i+1))).els++[R (d^(i+1))])])=_;rw[this];rfl
 ·subst a;have el:((aE (tf d (max m 1-1+1))).els).length=max m 1-1+1:=by simp[aE,D.els,jK]
  have q1:akk .lss (.int .i64 (((aE (tf d (max m 1-1+1))).els).length:Int)) (I (m:Int))=some (.bool (decide (max m 1-1+1<m))):=by rw[el];exact jq
  refine⟨(0,[aE (tf d (max m 1-1+1))]),O q1 (O ac (aB u0 rfl)),?_⟩
  rw[show max m 1-1+1=max m 1 by omega];rfl
def UI(x:Int):bL [x]=K (bP x 0):=oN λk=>by
 match k with
 | 0=>rfl
 | 1=>rfl
 | 2=>rfl
 | 3=>rfl
 | k+4=>rfl
def Vu(x y:Int):bL [x,y]=K (bP x y):=oN λk=>by
 match k with
 | 0=>rfl
 | 1=>rfl
 | 2=>rfl
 | 3=>rfl
 | k+4=>rfl
def akG{x:Int}{b:Nat}(h:x.natAbs<=2^b):S (bP x 0) 0 b:=
 ⟨λk hk=>by
  match k,hk with
  | 1,_=>rfl
  | k+2,_=>rfl,(akJ h (zoa _)).2⟩
def fB(f L:Nat->Int)(d:Int)(m:Nat):Nat->(Nat->Int)
 | 0=>dZ
 | j+1=>dF (bA (fB f L d m j) L) (bP (f (m-1-j)*d^j) 0)
def xh(g:Nat->Int):bA dZ g=dZ:=by
 funext k;show pn dZ g k (k+1)=0;generalize k+1=i
 induction i with
 | zero=>rfl
 | succ i ih=>show pn dZ g k i+0*g (k-i)=0;rw[ih];simp
def GQ{e b:Nat}(g:S f e b){d:Int}{c:Nat}(a:d.natAbs<=2^c)(i j:Nat):(f i*d^j).natAbs<=2^(b+c*j):=by rw[zwa,z5a];exact zFa (g.2 i) (DE a j)
theorem E3{L:Nat->Int}{e b:Nat}(c:S f e b)(hL:S L 1 61){d:Int}(a:d.natAbs<=2^60)(m:Nat):∀ j,S (fB f L d m (j+1)) j (b+64*j)
 | 0=>by
  show S (dF (bA dZ L) (bP (f (m-1-0)*d^0) 0)) 0 (b+64*0);rw[xh];have e:dF dZ (bP (f (m-1-0)*d^0) 0)=bP (f (m-1-0)*d^0) 0:=by funext k;simp[dF,dZ]
  rw[e];exact(akG (GQ c a (m-1-0) 0)).mono (zja _) u0
 | j+1=>by
  have ih:=E3 c hL a m j;have hm:S (bA (fB f L d m (j+1)) L) (j+1) (b+64*j+61+2):=by
   refine⟨λk hk=>wv ih hL u0 _ (zja _),λk=>?_⟩
   have key:∀ i,i<=k+1->(pn (fB f L d m (j+1)) L k i).natAbs<=(i-(k-1))*2^(b+64*j+61):=by
    intro i
    induction i with
    | zero=>intro _;exact zoa _
    | succ i g=>
     intro hi;have h1:(pn (fB f L d m (j+1)) L k (i+1)).natAbs<=(pn (fB f L d m (j+1)) L k i).natAbs+(fB f L d m (j+1) i*L (k-i)).natAbs:=zPb ..;have h:=g u0
     by_cases hc:i<k-1
     ·have:L (k-i)=0:=hL.1 _ u0
      grind
     ·have l:(fB f L d m (j+1) i*L (k-i)).natAbs<=2^(b+64*j+61):=by rw[zwa,z5a _ (b+64*j)];exact zFa (ih.2 i) (hL.2 _)
      rw[show i+1-(k-1)=i-(k-1)+1 by omega,Nat.add_one_mul]
      omega
   have:=key (k+1) (zja _);have n:(k+1-(k-1))*2^(b+64*j+61)<=4*2^(b+64*j+61):=zJa _ u0
   rw[z5a _ (b+64*j+61) 2];show(pn (fB f L d m (j+1)) L k (k+1)).natAbs<=_;omega
  exact(S.add hm (akG (GQ c a (m-1-(j+1)) (j+1)))).mono u0 u0
def Xp(n:Nat){b:Rat}(d:InR a)(e:InR b):C (n+1031) 547 [.sl [av a,av b]]=some (.bool true):=by
 rw[YD];delta Kl P qS qX iL iR Jn J0 jl qc qj Z qn qy;refine J [av a,av b] ?_;have st:∀ {x:Rat} {α:Type} {A B Y:Option α},InR x->B=Y->((C (n+1030) 136 [av x]).bind λf=>(akz .not f).bind λz=>(D.truth z).bind λc=>if c=true then A else B)=Y:=λ{x α A B Y} hx g=>by simp_all [nl,zba,aJ,ac,decide]
 refine cC (s':=[I 1]) (J (.bool true) (J true (fW (J [av a,av b] (J 0 (J (av a) (st d rfl))))))) ?_;refine cC (s':=[I 2]) (J (.bool true) (J true (fW (J [av a,av b] (J 1 (J (av b) (st e rfl))))))) ?_;exact fg (r:=(1,[])) rfl rfl
def NT(a b:Rat):Nat->Int:=bP (a.num*b.den) (b.num*a.den)
def B5(a b:Rat):Int:=(a.den:Int)*b.den
structure TmOk(a b:Rat):Prop where
 a1:a.num.natAbs<=2^20
 a2:a.den<=2^20
 b1:b.num.natAbs<=2^41
 b2:b.den<=2^40
def TmOk.ia{a b:Rat}(h:TmOk a b):InR a:=eO.inR (a:=20) (k:=20) ⟨h.a1,h.a2⟩
def TmOk.ib{a b:Rat}(h:TmOk a b):InR b:=eO.inR (a:=41) (k:=40) ⟨h.b1,h.b2⟩
def c8{m k:Nat}(h:m<=2^k):((m:Nat):Int).natAbs<=2^k:=by rw[zha];exact h
def TmOk.L{b:Rat}(h:TmOk a b):S (NT a b) 1 61:=
 akJ (zva (bK (k:=60) h.a1 (c8 h.b2) H) (zqa H H)) (bK h.b1 (c8 h.a2) H)
theorem TmOk.d{b:Rat}(h:TmOk a b):(B5 a b).natAbs<=2^60:=bK (c8 h.a2) (c8 h.b2) H
def nh(f:Nat->Int)(a b:Rat):Nat->Int:=fB f (NT a b) (B5 a b) (K f).length (K f).length
def As{i:Int}:akk .geq (I i) (.int .i64 0)=some (.bool (decide (i ≥ 0))):=fS
theorem aeR(n:Nat){e b:Nat}(c:S f e b)(he:e<=3)(o:b<=200){p:Rat}(ht:TmOk p q):C (n+1032) 573 [ar f,av p,av q]=some (ar (nh f p q)):=by
 have l1:=dI c u0
 have hL:=fr c u0
 have a:∀ {x:Int} {k:Nat},x.natAbs<=2^k->k<=511->In x:=λh hk=>bJ hk h;have m1:=bK (k:=60) ht.a1 (c8 ht.b2) H
 have G:=bK (k:=61) ht.b1 (c8 ht.a2) H
 have m3:=ht.d;rw[ahs];delta Qe Q P qT qS qX iL iR J0 J1 jl qO qc Z qy qz;refine O (rG (n+1028) hL u0) (O ac ?_)
 refine O (z:=false) ?_ (O ac ?_)
 ·rw[zia H];exact O (Xp n ht.ia ht.ib) (O aJ ac)
 rw[zia H]
 refine J (R p.num) (J (R q.den) (O (js (n+1028) (a ht.a1 H) (a (c8 ht.b2) H) (a m1 H)) (J (R q.num) (J (R p.den) (O (js (n+1028) (a ht.b1 H) (a (c8 ht.a2) H) (a G H)) ?_)))))
 refine O (z:=ar (NT p q)) ?_ (J (R p.den) (J (R q.den) (O (js (n+1028) (a (c8 ht.a2) H) (a (c8 ht.b2) H) (a m3 H)) (J ((K f).map R) ?_))))
 ·refine(Xs (n+1027) (l:=[p.num*q.den,q.num*p.den]) (λx hx=>?_) j2).trans ?_
  ·simp only[zOa,zkc,or_false] at hx;rcases hx with rfl|rfl
   ·exact a m1 H
   ·exact a G H
  ·rw[Vu];rfl
 refine O (z:=aE (tf (B5 p q) (max (K f).length 1))) (by rw[zka];exact Xr (n+1027) ht.d H u0) (J ((K f).map R) ?_)
 refine O (z:=I ((K f).length-1:Int)) (by rw[zka];exact bW (by simp only[inR];omega)) ?_
 refine aZ (λj s=>s=[ar (fB f (NT p q) (B5 p q) (K f).length j),I ((K f).length-1-(j:Int))]) (K f).length 0 (zoa _) (by rw[ztd,Int.sub_zero];rfl) (λj r s g=>?_) (λs g=>?_)
 ·subst g;left;have m:((K f).length-1-(j:Int))=(((K f).length-1-j:Nat):Int):=u0
  refine⟨_,?_,rfl⟩;refine O As (O ac (au u0 ?_))
  have hc:=GQ c ht.d ((K f).length-1-j) j;have i:=akG hc;have hm:C (n+1031) 534 [ar (fB f (NT p q) (B5 p q) (K f).length j),ar (NT p q)]=some (ar (bA (fB f (NT p q) (B5 p q) (K f).length j) (NT p q)))/\S (bA (fB f (NT p q) (B5 p q) (K f).length j) (NT p q)) j (b+64*j+1):=by
   cases j with
   | zero=>
    refine⟨QK (n+1025) S.zero ht.L H H,?_⟩
    show S (bA dZ _) 0 _;rw[xh];exact S.zero.mono (zja _) u0
   | succ j=> have h1:=E3 c ht.L ht.d (K f).length j;exact⟨QK (n+1025) h1 ht.L u0 u0,(S.mul h1 ht.L u0).mono (zja _) u0⟩
  refine O hm.1 (J ((K f).map R) (O (z:=(K f).length-1-j) (by rw[m];exact kG u0) (O (jS u0) (J ((K f).map R) (O (z:=I ((K f).length-1:Int)) (by rw[zka];exact bW (by simp only[inR];omega)) (O (z:=I (j:Int)) ?_ ?_))))))
  ·show akk .sub (I ((K f).length-1:Int)) (I ((K f).length-1-(j:Int)))=_;grind [bW,inR]
  rw[bN c he];refine J ((tf (B5 p q) (max (K f).length 1)).map R) (O (kG (by rw[jK];omega)) (O (jS (by rw[jK];omega)) ?_))
  rw[vK u0]
  refine O (js (n+1028) (o8 c u0 _) (sK ht.d H u0) (bJ (k:=b+60*j) u0 hc)) (O (z:=ar (bP (f ((K f).length-1-j)*B5 p q^j) 0)) ?_ (O (Ig (n+1026) hm.2 i u0 u0) (O (bW (by simp only[inR];omega)) ?_)))
  ·refine(Xs (n+1027) (l:=[f ((K f).length-1-j)*B5 p q^j]) (λx hx=>?_) j2).trans ?_
   ·rw[zUa.1 hx];exact bJ (k:=b+60*j) u0 hc
   ·rw[UI];rfl
  ·show some (Sum.inl [_,I ((K f).length-1-(j:Int)-1)])=_;rw[show((K f).length-1-(j:Int)-1)=((K f).length-1-((j+1:Nat):Int)) by omega];rfl
 ·subst g;exact⟨_,O As (O ac (aB u0 rfl)),rfl⟩
def BK{e b:Nat}(a:S f e b)(he:e<=3){p:Rat}(ht:TmOk p q):S (nh f p q) 3 (b+192):=by
 have l1:=dI a he;unfold nh;cases h:(K f).length with
 | zero=>exact S.zero.mono H u0
 | succ m=>exact(E3 a ht.L ht.d (m+1) m).mono u0 u0
def aeJ(n:Nat){e b:Nat}(a:S f e b)(he:e<=3)(c:b<=200){p:Rat}(ht:TmOk p q):C (n+1033) 548 [ar f,av p,av q]=some (ar (ve (nh f p q))):=by rw[ahi];unfold P5;exact O (aeR n a he c ht) (O (aeQ (n+1) (BK a he ht) H u0) rfl)
def wL:Nat->Int
 | 0=>1
 | k+1=>wL k*((k+1:Nat):Int)
def chZ:Nat->Nat->Int
 | _,0=>1
 | 0,_+1=>0
 | n+1,k+1=>chZ n k+chZ n (k+1)
def iV(n i k:Nat):Int:=chZ i k*(wL k*wL (n-k))
def NH:∀ n,n<4->∀ i,i<4->∀ k,k<n->i<=n->k<=i->iV n i k*((i:Int)-k)=iV n i (k+1)*((n:Int)-k):=H
def BX:∀ n,n<4->∀ i,i<4->∀ k,k<5->(iV n i k).natAbs<=24:=H
def YK:∀ n,n<4->∀ i,i<4->iV n i 0=wL n:=H
def G5:∀ n,n<5->0<wL n/\(wL n).natAbs<=24:=H
def Wh(n i:Nat):List Int:=(List.range (i+1)).map (iV n i)
def gR{x:Int}(h:x.natAbs<=1000):In x:=bB (by simp only[inR];omega)
def aeK(n:Nat){m i:Nat}(hm:m<4)(hi:i<=m):C (n+7) 549 [I (m:Int),I (i:Int)]=some (aE (Wh m i)):=by
 rw[ahj];delta P6 P qV qW iL iR J0 J1 J2 qb qc qj Z qu qy;refine O (ou (n+4) (x:=1) (cj 1)) ?_;refine O (z:=(0,[R (wL m)])) ?_ ?_
 ·refine eP (λk s=>s=[I ((k+2:Nat):Int),R (wL (k+1))]/\k+1<=max m 1) (max m 1-1) ⟨rfl,u0⟩ (λk hk s d=>?_) (λs d=>?_)
  ·obtain⟨rfl,_⟩:=d;have f1:=G5 (k+1) u0;have f2:=G5 (k+2) u0
   refine⟨_,O ja (O ac (au u0 (O (ou (n+4) (by simp only[inR];omega)) (O (js (n+3) (gR u0) (gR u0) (show In (wL (k+2)) from gR u0)) (O (aA (a:=k+2) (b:=1) u0) rfl))))),⟨rfl,u0⟩⟩
  ·obtain⟨rfl,_⟩:=d;refine O ja (O ac (aB u0 ?_))
   have:wL (max m 1-1+1)=wL m:=by
    rcases zua m 1 with h|h
    ·have:m=0:=u0
     subst this;rfl
    ·simp_all
   simp_all
 refine O (aA (a:=i) (b:=1) u0) ?_
 refine aZ (λk s=>s=[aE ((List.range k).map (iV m i)),I (k:Int),R (if k<=m then iV m i k else iV m i m)]) (i+1) 0 (zoa _) (by rw[zla (zoa _),YK m hm i u0];rfl) (λk hk s c=>?_) (λs c=>?_)
 ·subst c;left;refine⟨_,?_,rfl⟩;have w1:=BX m hm i u0 k u0;have g:=BX m hm i u0 (k+1) u0
  have el:((aE ((List.range k).map (iV m i))).els).length=k:=by simp[aE,D.els]
  rw[zla (show k<=m by omega)]
  have e:(aE ((List.range k).map (iV m i))).els++[R (iV m i k)]=((List.range (k+1)).map (iV m i)).map R:=by rw[zyb,zib,zib];rfl
  refine O jq (O ac (au hk (O (z:=(0,[aE ((List.range (k+1)).map (iV m i)),R (if k+1<=m then iV m i (k+1) else iV m i m)])) ?_ (O (aA (a:=k) (b:=1) u0) rfl))))
  rw[zla (by rw[show D.els ([aE ((List.range k).map (iV m i)),I (k:Int),R (iV m i k)].getD 0 (.bool false))=(aE ((List.range k).map (iV m i))).els from rfl,el];simp;omega)]
  refine O jq (O ac ?_);by_cases hkm:k<m
  ·refine au hkm ?_;have hn:=NH m hm i u0 k hkm hi u0
   have f:(0:Int)<(m:Int)-k:=u0
   have b1:(iV m i k*((i:Int)-k)).natAbs<=24*4:=by rw[zwa];exact zFa w1 u0
   refine O (bW (by simp only[inR];omega)) (O (ou (n+4) (by simp only[inR];omega)) (O (js (n+3) (gR u0) (gR u0) (gR u0)) (O (bW (by simp only[inR];omega)) (O (ou (n+4) (by simp only[inR];omega)) (O (u5 n (gR u0) (gR u0) u0 ⟨iV m i (k+1),by rw[hn,zNc]⟩) ?_)))))
   rw[hn,Int.mul_ediv_cancel _ u0,zla u0]
   show some (0,[D.sl ((aE ((List.range k).map (iV m i))).els++[R (iV m i k)]),R (iV m i (k+1))])=_;rw[e];rfl
  ·refine aB hkm ?_;have:k=m:=u0
   subst this;rw[zia u0]
   show some (0,[D.sl ((aE ((List.range k).map (iV k i))).els++[R (iV k i k)]),R (iV k i k)])=_;rw[e];rfl
 ·subst c;exact⟨_,O jq (O ac (aB u0 rfl)),rfl⟩
end
section
variable{a:Rat}{c f:Nat->Int}
def XT{α:Type}{c:Bool}{A B y:α}(h:c=true)(a:A=y):(if c=true then A else B)=y:=by rw[zla h];exact a
def XS{α:Type}{c:Bool}{A B y:α}(h:c=false)(a:B=y):(if c=true then A else B)=y:=by rw[h,zia H];exact a
structure TwOk(a t:Rat):Prop where
 a1:a.num.natAbs<=2^20
 a2:a.den<=2^20
 b1:t.num.natAbs<=2^20
 b2:t.den<=2^20
theorem TwOk.d{t:Rat}(h:TwOk a t):TmOk a (t-a):=by
 have e:t-a=Rat.divInt (t.num*a.den-a.num*t.den) ((t.den:Int)*a.den):=by
  conv=>lhs;rw[<-z7a t,<-z7a a]
  rw[Rat.divInt_sub_divInt _ _ (bV t) (bV a)]
 have m1:=bK (k:=40) h.b1 (c8 h.a2) H
 have G:=bK (k:=40) h.a1 (c8 h.b2) H
 have m3:=bK (k:=40) (c8 h.b2) (c8 h.a2) H
 have m4:=Int.natAbs_sub_le (t.num*a.den) (a.num*t.den);have:=eG (x:=t.num*a.den-a.num*t.den) (d:=(t.den:Int)*a.den) (a:=41) (k:=40) (by have b:(2:Nat)^41=2199023255552:=rfl;have c:(2:Nat)^40=1099511627776:=rfl;omega) m3 (zLc (bV t) (bV a))
 rw[<-e] at this;exact⟨h.a1,h.a2,this.1,this.2⟩
def TwOk.it{a t:Rat}(h:TwOk a t):InR t:=eO.inR (a:=20) (k:=20) ⟨h.b1,h.b2⟩
theorem TwOk.neg{t:Rat}(h:TwOk a t):eO (-a) 20 20:=⟨by rw[Rat.neg_num,zHb];exact h.a1,h.a2⟩
theorem TwOk.sub{t:Rat}(h:TwOk a t):V0 (some t) (some a)=some (t-a):=by show addW (some t) (some (-a))=_;rw[iZ (eO.fitA (a:=20) (k:=20) ⟨h.b1,h.b2⟩ h.neg),Rat.sub_eq_add_neg]
def Aw(n:Nat)(c:Nat->Int)(i:Nat):Nat->Int
 | 0=>0
 | k+1=>Aw n c i k+iV n i k*c k
def dH(f:Nat->Int)(a t:Rat)(i:Nat):Int:=Aw ((K f).length-1) (ve (nh f a (t-a))) i (i+1)
def wW(f:Nat->Int)(a t:Rat):Bool:=(List.range (K f).length).all λi=>decide (0<=dH f a t i)
def Ns{e b:Nat}(hc:S c e b){n i k:Nat}(hn:n<4)(hi:i<4)(hk:k<5):(iV n i k*c k).natAbs<=2^(b+5):=by rw[zwa,zgc,z5a];exact zFa (zva (BX n hn i hi k hk) H) (hc.2 k)
theorem KJ{e b:Nat}(hc:S c e b){n i:Nat}(hn:n<4)(hi:i<4):∀ k,k<=4->(Aw n c i k).natAbs<=k*2^(b+5)
 | 0,_=>zoa _
 | k+1,hk=>by
  have h1:(Aw n c i (k+1)).natAbs<=(Aw n c i k).natAbs+(iV n i k*c k).natAbs:=zPb ..;have a:=KJ hc hn hi k u0
  have d:=Ns hc hn hi (k:=k) u0
  grind
def Ax{e b:Nat}(hc:S c e b)(d:b<=400){n i k:Nat}(hn:n<4)(hi:i<4)(hk:k<=4):In (Aw n c i k):=
 bJ (k:=b+7) u0 (by have h1:=KJ hc hn hi k hk;have a:k*2^(b+5)<=4*2^(b+5):=zJa _ hk;rw[show b+7=b+5+2 from rfl,z5a];omega)
def SG{n i k:Nat}(h:k<=i):(Wh n i).getD k 0=iV n i k:=by unfold Wh;rw[dj,zla u0]
def vR(n i:Nat):(Wh n i).length=i+1:=by simp[Wh]
theorem VS{m i:Nat}{f g:Nat->Int}(h:i<m)(a:∀ j,j<m->j≠i->g j=f j):List.set (((List.range m).map f).map R) i (R (g i))=((List.range m).map g).map R:=by rw[zmd,zmd];apply zOb;all_goals grind
def VW{x:Int}{g:Nat}(h0:g≠0)(a:(g:Int) ∣ x):decide (0<=x/(g:Int))=decide (0<=x):=by
 obtain⟨y,rfl⟩:=a;have b:(0:Int)<g:=u0
 rw[zZa _ u0,decide_eq_decide]
 constructor
 ·exact λh=>zWb u0 h
 ·intro h;rcases(show y<0\/0<=y by omega) with k|k
  ·have:=zIb b k;omega
  ·exact k
theorem yE{m:Nat}{g:Nat->Int}(h:∀ i,i<m->decide (0<=f i)=decide (0<=g i)):((List.range m).map f).all (λx=>decide (0<=x))=(List.range m).all λi=>decide (0<=g i):=by all_goals grind
def eZ(f:Nat->Int)(a t:Rat):List Int:=(List.range (K f).length).map (dH f a t)
def ye(f:Nat->Int)(a t:Rat):List Int:=if kL (eZ f a t)=0 then eZ f a t else(List.range (K f).length).map λi=>dH f a t i/(kL (eZ f a t):Nat)
def Q3{l:List Int}(h:Kn l):In (kL l:Nat):=by have:=AT h _ (zja _);rwa [z8a] at this
def Av{e b:Nat}(c:S f e b)(he:e<=3)(g:b<=200){t:Rat}(ht:TwOk a t){i:Nat}(hi:i<(K f).length):In (dH f a t i):=by
 have l1:=dI c u0
 exact Ax (BK c he ht.d).pri u0 u0 u0 u0
def Au{e b:Nat}(d:S f e b)(he:e<=3)(c:b<=200){t:Rat}(ht:TwOk a t):Kn (eZ f a t):=λx hx=>by obtain⟨i,hi,rfl⟩:=zmb.1 hx;exact Av d he c ht (zRa.1 hi)
def Qu{e b:Nat}(c:S f e b)(he:e<=3)(d:b<=200){t:Rat}(ht:TwOk a t):Kn (ye f a t)/\(ye f a t).length<=4/\(ye f a t).all (λx=>decide (0<=x))=wW f a t:=by
 have l1:=dI c u0
 unfold ye;by_cases h0:kL (eZ f a t)=0
 ·rw[zla h0];exact⟨Au c he d ht,by simp[eZ];omega,yE λi _=>rfl⟩
 ·rw[zia h0];refine⟨λx hx=>?_,by simp;omega,yE λi hi=>VW h0 (sa _ (zmb.2 ⟨i,zRa.2 hi,rfl⟩))⟩
  obtain⟨i,hi,rfl⟩:=zmb.1 hx;exact qU (Av c he d ht (zRa.1 hi)) _
def emE(f:Nat->Int)(m:Nat):List.isEmpty (((List.range m).map f).map R)=decide (m=0):=by
 cases m with
 | zero=>rfl
 | succ m=>simp[zyb]
def aeD(n:Nat){e b:Nat}(h:S f e b)(he:e<=3)(p:b<=200){t:Rat}(ht:TwOk a t):C (n+1034) 516 [ar f,av a,av t]=some (.tup [aE (ye f a t),.bool true]):=by
 have l1:=dI h u0
 have hL:=fr h u0
 have hc:S (ve (nh f a (t-a))) 3 (b+192):=(BK h he ht.d).pri;have E:=dI hc u0
 rw[ag5];delta PO Q P qT qS qX qV qW iL iR Jn J0 J1 bF bT jl nq qO qc qi qj Z qt qu qy qz;refine O (rG (n+1030) hL u0) (O ac (O (z:=false) ?_ (O ac ?_)))
 ·rw[zia H];exact O (Xp (n+2) ht.d.ia ht.it) (O aJ ac)
 rw[zia H]
 refine O (z:=av (t-a)) ?_ (O (aeJ n h he p ht.d) (O (rG (n+1030) (fr hc u0) u0) (O ac ?_)))
 ·have:=KU (n+1) (a:=some t) (b:=some a) (aH ht.it) (aH ht.d.ia);rw[ht.sub] at this;exact this
 rw[zia H]
 refine J ((K f).map R) ?_;refine O (z:=(1,[aE (eZ f a t)])) ?_ ?_
 ·refine eP (λi s=>s=[aE ((List.range i).map (dH f a t)),I (i:Int)]) (K f).length rfl (λi hi s c=>?_) (λs c=>?_)
  ·subst c;refine⟨[aE ((List.range (i+1)).map (dH f a t)),I ((i+1:Nat):Int)],?_,rfl⟩;refine O o9 (O ac (au hi (J ((K f).map R) (O (z:=I (((K f).length-1:Nat):Int)) (by rw[zka];exact th u0 u0) (O (aeK (n+1026) (m:=(K f).length-1) u0 u0) (J ((Wh ((K f).length-1) i).map R) ?_))))))
   refine O (z:=(0,[aE ((List.range i).map (dH f a t)),R (dH f a t i)])) ?_ ?_
   ·refine eP (λk s=>s=[aE ((List.range i).map (dH f a t)),I (k:Int),R (Aw ((K f).length-1) (ve (nh f a (t-a))) i k)]) (i+1) (by rw[rt];rfl) (λk hk s q=>?_) (λs q=>?_)
    ·subst q;refine⟨_,?_,rfl⟩;have A:In (iV ((K f).length-1) i k*ve (nh f a (t-a)) k):=bJ (k:=b+192+5) u0 (Ns hc u0 u0 u0)
     refine O o9 (O ac (au (by rw[vR];exact hk) (J ((Wh ((K f).length-1) i).map R) (O (kG (by rw[vR];exact hk)) (O (jS (by rw[vR];exact hk)) (O (Az (n+1032) (K (ve (nh f a (t-a)))) k) ?_))))))
     rw[SG u0,bN hc u0]
     have w1:=BX ((K f).length-1) u0 i u0 k u0
     exact O (js (n+1030) (gR u0) (o8 hc u0 k) A) (O (rH (n+1029) (Ax hc u0 u0 u0 u0) A (Ax hc (k:=k+1) u0 u0 u0 u0)) (O (aA (a:=k) (b:=1) u0) rfl))
    ·subst q;exact O o9 (O ac (aB (by rw[vR];omega) rfl))
   refine J (.bool false) (J false ?_);rw[zia H,zla (by simp[aE,D.els];omega)]
   refine O (aA (a:=i) (b:=1) u0) ?_
   rw[zyb,zib];show some (Sum.inl [D.sl (((List.range i).map (dH f a t)).map R++[R (dH f a t i)]),_])=some (Sum.inl [D.sl ((((List.range i).map (dH f a t))++[dH f a t i]).map R),_])
   simp_all
  ·subst c;exact O o9 (O ac (aB u0 rfl))
 refine(zia (show ¬ (1=0) by decide)).trans ?_
 have w:=Q3 (Au h he p ht);refine O (Xq (n+3) (Au h he p ht) (by simp[eZ];omega)) (O (lc (n+1030) w) ?_)
 have x:(List.isEmpty (D.els (List.getD (1,[aE (eZ f a t)]).2 0 (.bool false))))=decide ((K f).length=0):=emE _ _;have y:(!(D.beq (I (sg ((kL (eZ f a t):Nat):Int))) (.int .i64 0)))=decide (kL (eZ f a t)≠0):=by simp_all [Ew,decide_not,decide_eq_decide]
 by_cases h0:(K f).length=0
 ·refine XT (x.trans (zna h0)) ?_;have o:eZ f a t=[]:=by unfold eZ;rw[h0];rfl
  have l:kL (eZ f a t)=0:=by rw[o];rfl
  refine O (z:=false) (by rw[y,zfa (λk=>k l)];rfl) ?_
  rw[zia H]
  unfold ye;rw[zla l,o];rfl
 ·refine XS (x.trans (zfa h0)) ?_;refine O (z:=decide (kL (eZ f a t)≠0)) (by rw[y];rfl) ?_
  unfold ye;by_cases l:kL (eZ f a t)=0
  ·rw[zla l];exact aB (λk=>k l) rfl
  ·rw[zia l];refine au l ?_;refine aZ (λi s=>s=[I (i:Int),aE ((List.range (K f).length).map λj=>if j<i then dH f a t j/(kL (eZ f a t):Nat) else dH f a t j)]) (K f).length 0 (zoa _) ?_ (λi hi s c=>?_) (λs c=>?_)
   ·show[_,aE (eZ f a t)]=_;congr 2
   ·subst c;left;refine⟨[I ((i+1:Nat):Int),aE ((List.range (K f).length).map λj=>if j<i+1 then dH f a t j/(kL (eZ f a t):Nat) else dH f a t j)],?_,rfl⟩
    have u:((aE ((List.range (K f).length).map λj=>if j<i then dH f a t j/(kL (eZ f a t):Nat) else dH f a t j)).els).length=(K f).length:=by simp[aE,D.els]
    have v:(((List.range (K f).length).map λj=>if j<i then dH f a t j/(kL (eZ f a t):Nat) else dH f a t j).map R)[i]?=some (R (dH f a t i)):=by simp_all
    have r:((kL (eZ f a t):Nat):Int) ∣ dH f a t i:=sa _ (zmb.2 ⟨i,zRa.2 hi,rfl⟩);refine O (z:=.bool (decide (i<(K f).length))) ?_ (O ac (au hi (O (z:=i) (by rw[show D.els (List.getD [I (i:Int),aE ((List.range (K f).length).map λj=>if j<i then dH f a t j/(kL (eZ f a t):Nat) else dH f a t j)] 1 (.bool false))=(aE ((List.range (K f).length).map λj=>if j<i then dH f a t j/(kL (eZ f a t):Nat) else dH f a t j)).els from rfl,u];exact aj hi) (O v (O (u5 (n+1027) (Av h he p ht hi) w u0 r) ?_)))))
    ·have:(List.length (D.els (List.getD (1,[aE (eZ f a t)]).2 0 (.bool false))))=(K f).length:=by simp[aE,D.els,eZ]
     rw[this];exact jq
    refine O (z:=i) (by rw[show D.els (List.getD [I (i:Int),aE ((List.range (K f).length).map λj=>if j<i then dH f a t j/(kL (eZ f a t):Nat) else dH f a t j)] 1 (.bool false))=(aE ((List.range (K f).length).map λj=>if j<i then dH f a t j/(kL (eZ f a t):Nat) else dH f a t j)).els from rfl,u];exact aj hi) (O v (O (aA (a:=i) (b:=1) u0) ?_))
    have:=VS (m:=(K f).length) (i:=i) (f:=λj=>if j<i then dH f a t j/(kL (eZ f a t):Nat) else dH f a t j) (g:=λj=>if j<i+1 then dH f a t j/(kL (eZ f a t):Nat) else dH f a t j) hi (λj _ B=>by
     by_cases k:j<i
     ·omega
     ·rw[zia k,zia u0])
    rw[zla (show i<i+1 by omega)] at this
    show some (Sum.inl [_,D.sl (List.set (((List.range (K f).length).map λj=>if j<i then dH f a t j/(kL (eZ f a t):Nat) else dH f a t j).map R) i (R (dH f a t i/(kL (eZ f a t):Nat))))])=_
    rw[this];rfl
   ·subst c;refine⟨(0,[aE ((List.range (K f).length).map λj=>if j<(K f).length then dH f a t j/(kL (eZ f a t):Nat) else dH f a t j)]),O (z:=.bool (decide ((K f).length<(K f).length))) ?_ (O ac (aB u0 rfl)),?_⟩
    ·have:(List.length (D.els (List.getD (1,[aE (eZ f a t)]).2 0 (.bool false))))=(K f).length:=by simp[aE,D.els,eZ]
     rw[this];exact jq
    ·have:((List.range (K f).length).map λj=>if j<(K f).length then dH f a t j/(kL (eZ f a t):Nat) else dH f a t j)=(List.range (K f).length).map λi=>dH f a t i/(kL (eZ f a t):Nat):=
      zpc λk hk=>zla (zRa.1 hk)
     rw[this];rfl
theorem aeA(n:Nat){e b:Nat}(g:S f e b)(he:e<=3)(d:b<=200){t:Rat}(ht:TwOk a t):C (n+1035) 498 [ar f,av a,av t]=some (.bool (wW f a t)):=by
 obtain⟨h1,j,h⟩:=Qu g he d ht;rw[agW];delta PE qT qS qX iL iR J0 jl qc qe qh qj Z qp qy;refine O (aeD n g he d ht) (J (aE (ye f a t)) (J (.bool true) (J ((ye f a t).map R) ?_)));rw[<-h];generalize ye f a t=L at *;refine aZ (λi s=>s=[.bool ((L.take i).all λx=>decide (0<=x)),I (i:Int)]) L.length 0 (zoa _) rfl (λi hi s c=>?_) (λs c=>?_)
 ·subst c;left;refine⟨_,?_,rfl⟩;refine O o9 (O ac (au hi (J (L.map R) (O (kG hi) (O (jS hi) (O ac (O (z:=(L.take (i+1)).all λx=>decide (0<=x)) ?_ (O (aA (a:=i) (b:=1) u0) rfl))))))))
  rw[zxa hi,z5c];cases hA:(L.take i).all λx=>decide (0<=x) with
  | false=>rfl
  | true=>
   rw[zla rfl];refine O (lc (n+1031) (gH h1 i)) (O fS (z:=.bool (decide (sg (L.getD i 0) ≥ 0))) ?_);rw[ac,show L.getD i 0=L[i] from by rw[zDa,zda hi];rfl]
   simp only[zMb,List.all_nil,Bool.and_true,z6b];congr 1;rw[decide_eq_decide];grind [sg]
 ·subst c;refine⟨_,O o9 (O ac (aB u0 rfl)),?_⟩
  simp_all
end
def Eo(f:Nat->Int):D.beq (cK 16 f) (D.st (akx (List.replicate 16 (D.int .u32 0)) []))=zR f 16:=by rw[iQ,H0,zOc,Gg,zea];simp only[lw]
def Xa(n:Nat)(b s:Bool)(f:Nat->Int):C (n+1) 167 [mJ b s f]=some (.bool (yc b s f)):=by
 rw[Yu];delta Kc Q qT qN bq qe qt qz;refine J (cK 16 f) (J (.bool b) (O ac ?_));cases b with
 | true=> rw[zla rfl,Eo];refine O ac ?_;unfold yc;cases zR f 16<;>cases s<;>rfl
 | false=>
  rw[zia H,Eo]
  refine O aJ (O ac ?_);unfold yc;cases zR f 16<;>cases s<;>rfl
def Ck(n:Nat)(b s:Bool)(f:Nat->Int):C (n+2) 128 [mJ b s f]=some (.bool (yc b s f&&!b)):=by
 rw[V8];delta H1 Q qN qe Z;refine J (.bool b) (O aJ (O ac ?_));cases b with
 | true=>rw[show(yc true s f&&!true)=false from by simp];rfl
 | false=>
  refine O (z:=yc false s f) ?_ (by rw[show(yc false s f&&!false)=yc false s f from by simp])
  exact O (Xa n false s f) ac
def W6(n:Nat){r:RawR}(h:r.ok):∃ v:Bool,C (n+1030) 136 [r.enc]=some (.bool v)/\(v=true->∃ q,InR q/\r.enc=av q):=by
 obtain⟨b,s,f,c,t,g⟩:=r;obtain⟨l,m⟩:=h;cases k1:yc b s f&&!b with
 | false=>
  refine⟨false,?_,λh=>by cases h⟩
  rw[JD];delta Ap Q qT J0 bq qa qe qh Z;refine J (mJ b s f) (O (Ck (n+1027) b s f) ?_);rw[k1];rfl
 | true=>
  cases k2:yc c t g&&!c with
  | false=>
   refine⟨false,?_,λh=>by cases h⟩
   rw[JD];delta Ap Q qT J0 bq qa qe qh Z;refine J (mJ b s f) (O (Ck (n+1027) b s f) ?_);rw[k1];refine O ac (O (z:=false) (fW (J (mJ c t g) (O (Ck (n+1027) c t g) (by rw[k2];rfl)))) rfl)
  | true=>
   obtain⟨x,i,ex⟩:=vL l k1;obtain⟨d,id,e⟩:=vL m k2;have k:RawR.enc ⟨b,s,f,c,t,g⟩=.st [R x,R d]:=by show D.st [mJ b s f,mJ c t g]=_;rw[ex,e]
   have Y:C (n+1029) 128 [R x]=some (.bool true):=by rw[<-ex,Ck (n+1027) b s f,k1]
   have gd:C (n+1029) 128 [R d]=some (.bool true):=by rw[<-e,Ck (n+1027) c t g,k2]
   rw[k];by_cases hd:0<d
   ·refine⟨D.beq (R (Nat.gcd x.natAbs d.natAbs:Nat)) (R 1),?_,λo=>?_⟩
    ·rw[JD];delta Ap Q qT J0 bq qa qe qh Z;refine J (R x) (O Y (O ac (O (z:=true) (fW (J (R d) (O gd ac))) (O ac (O (z:=true) (fW ?_) (O ac (O (z:=D.beq (R (Nat.gcd x.natAbs d.natAbs:Nat)) (R 1)) (fW ?_) rfl)))))))
     ·refine J (R d) (O (lc (n+1026) id) (O cn ?_));rw[gQ hd];rfl
     ·exact J (R x) (J (R d) (O (wh n i id) (O (KS (n+1026)) ac)))
    ·have a:=KG (by
      rw[aD,zha];exact zLa (zed u0 (zpb _ _)) (aD.1 id)) o
     obtain⟨q,q1,j⟩:=G0 hd a;exact⟨q,⟨by rw[q1];exact i,by rw[j];exact id⟩,by unfold av;rw[q1,j]⟩
   ·refine⟨false,?_,λh=>by cases h⟩
    rw[JD];delta Ap Q qT J0 bq qa qe qh Z;refine J (R x) (O Y (O ac (O (z:=true) (fW (J (R d) (O gd ac))) (O ac (O (z:=false) (fW ?_) rfl)))));refine J (R d) (O (lc (n+1026) id) (O cn ?_));rw[ac];congr 1;grind [sg]
def MZ{r:RawR}(h:r.ok):(∃ q,InR q/\r.enc=av q)\/(∀ n,C (n+1030) 136 [r.enc]=some (.bool false))/\(∀ n,C (n+5) 88 [r.enc]=some (.bool false)):=by
 by_cases hq:∃ q,InR q/\r.enc=av q
 ·simp_all
 ·refine .inr ⟨λn=>?_,λn=>?_⟩
  ·obtain⟨v,h1,a⟩:=W6 n h;cases v with
   | false=>exact h1
   | true=>exact zgb (a rfl) hq
  ·obtain⟨v,h1,a⟩:=ae0 n h;cases v with
   | false=>exact h1
   | true=>exact zgb (a rfl) hq
def lC(N:V)(r:D):D:=.st [ag N,r]
def Ww(y:Int):Bool:=!(decide (y ≥ 2305843009213693952)||decide (y<=-2305843009213693952))
def FS(N:V):Bool:=(List.range 3).all λt=>Ww (aX N (0+t))
def Nk{N:V}(h:FS N=true){i:Nat}(hi:i<3):(aX N i).natAbs<=2^61:=by grind [FS,Ww,List.all_eq_true,Bool.not_eq_true',Bool.or_eq_false_iff]
theorem qJ_row{m k:Nat}(f:Nat->D)(h:k<m){α:Type}{g:D->Option α}{y:Option α}(a:g (f k)=y):((D.idx (I (k:Int)) m).bind λi=>(D.get (iI m f) [i]).bind g)=y:=by rw[aj h,zba,sQ f h];exact a
def Ng(p:Nat->Nat->Int)(x0 x1 v N:V)(q:Rat):Nat->Int:=
 Ea (ef (dF (dF (ef (fH p x0 x1 v 0) N.x) (ef (fH p x0 x1 v 1) N.y)) (ef (fH p x0 x1 v 2) N.z)) q.den) (ef (nW p) q.num)
structure PlnOk(N:V)(q:Rat):Prop where
 n:∀ i,i<3->(aX N i).natAbs<=2^61
 a:q.num.natAbs<=2^179
 d:q.den<=2^80
section
variable{p:Nat->Nat->Int}{x0 x1 v N:V}{q:Rat}
def gV(hp:∀ i,i<4->S (p i) 1 7)(h0:bd 1000 x0)(h1:bd 1000 x1)(a:bd 4096 v){i:Nat}(hi:i<3):S (fH p x0 x1 v i) 3 34:=Gc hp h0 h1 a hi 3 (zja _)
def VY(hp:∀ i,i<4->S (p i) 1 7)(h0:bd 1000 x0)(h1:bd 1000 x1)(e:bd 4096 v)(hk:PlnOk N q):S (Ng p x0 x1 v N q) 3 198:=by
 have a:=akK (b:=61) (gV hp h0 h1 e (i:=0) H) (hk.n 0 H)
 have b:=akK (b:=61) (gV hp h0 h1 e (i:=1) H) (hk.n 1 H)
 have c:=akK (b:=61) (gV hp h0 h1 e (i:=2) H) (hk.n 2 H)
 exact(S.sub (akK (b:=80) (S.add (S.add a b) c) (c8 hk.d)) (akK (b:=179) (nX hp) hk.a)).mono H H
end
def Ay{x:Int}(h:x.natAbs<=2^61):inR x:=by grind [inR]
def aeB(n:Nat){x0 x1 v N:V}{q0 q1:Nat->Int}{q:Rat}(h0:pe q0)(h1:pe q1)(b0:bd 1000 x0)(b1:bd 1000 x1)(c:bd 4096 v)(hk:PlnOk N q) :
  C (n+10) 500 [CG x0 q0 x1 q1,ag v,lC N (av q)]=some (ar (Ng (kE q0 q1) x0 x1 v N q)):=by
 have hp:∀ i,i<4->S (kE q0 q1 i) 1 7:=λi hi=>xP h0 h1 hi;rw[agY];delta PH Q iL iR J0 J3 qc qf qi qj Z qp qy;refine O (Xl n h0 h1 b0 b1 c) (J (yX (kE q0 q1) x0 x1 v) (J (ar (nW (kE q0 q1))) ?_));revert hp;generalize kE q0 q1=p;intro hp;have vt:∀ i,i<3->S (ef (fH p x0 x1 v i) (aX N i)) 3 95:=λi hi=>akK (b:=61) (gV hp b0 b1 c hi) (hk.n i hi);have t0:=vt 0 H;have t1:=vt 1 H;have t2:=vt 2 H
 have sc:∀ i,i<3->C (n+9) 499 [ar (fH p x0 x1 v i),R (aX N i)]=some (ar (ef (fH p x0 x1 v i) (aX N i))):=λi hi=>Cl (n+4) (b:=61) (gV hp b0 b1 c hi) (hk.n i hi) H H
 have row:∀ {α:Type} (i:Nat) (hi:i<3) {g:D->Option α} {y:Option α},g (ar (ef (fH p x0 x1 v i) (aX N i)))=y ->
   ((D.idx (I (i:Int)) 3).bind λi7=>(D.fld (yX p x0 x1 v) i7).bind λo=>(D.idx (I (i:Int)) 3).bind λi9=>(D.get (lC N (av q)) [0,i9]).bind λh=>(C (n+9) 54 [h]).bind λe=>(C (n+9) 499 [o,e]).bind g)=y:=λ{α} i hi {g y} l=>by
  rw[aj hi,zba,show D.fld (yX p x0 x1 v) i=some (ar (fH p x0 x1 v i)) from Bz _ hi,zba,zba,show D.get (lC N (av q)) [0,i]=some (I (aX N i)) from se hi,zba,ou (n+7) (Ay (hk.n i hi)),zba,sc i hi];exact l
 refine O (z:=(0,[ar (dF (dF (dF dZ (ef (fH p x0 x1 v 0) (aX N 0))) (ef (fH p x0 x1 v 1) (aX N 1))) (ef (fH p x0 x1 v 2) (aX N 2)))])) ?_ ?_
 ·refine(cB (a':=[ar (dF dZ (ef (fH p x0 x1 v 0) (aX N 0))),I 1]) ?_).trans ((cB (a':=[ar (dF (dF dZ (ef (fH p x0 x1 v 0) (aX N 0))) (ef (fH p x0 x1 v 1) (aX N 1))),I 2]) ?_).trans ((cB (a':=[ar (dF (dF (dF dZ (ef (fH p x0 x1 v 0) (aX N 0))) (ef (fH p x0 x1 v 1) (aX N 1))) (ef (fH p x0 x1 v 2) (aX N 2))),I 3]) ?_).trans (cT ?_)))
  ·exact J (.bool true) (J true (fW (row 0 H (O (Ig (n+4) (f:=dZ) S.zero t0 H H) (J (I 1) rfl)))))
  ·exact J (.bool true) (J true (fW (row 1 H (O (Ig (n+4) (S.add S.zero t0) t1 H H) (J (I 2) rfl)))))
  ·exact J (.bool true) (J true (fW (row 2 H (O (Ig (n+4) (S.add (S.add S.zero t0) t1) t2 H H) (J (I 3) rfl)))))
  ·rfl
 have j:=S.add (S.add (S.add S.zero t0) t1) t2;have m:=akK (b:=80) j (c8 hk.d);refine J (R q.den) (O (Cl (n+4) (b:=80) j (c8 hk.d) H H) (J (R q.num) (O (Cl (n+4) (b:=179) (nX hp) hk.a H H) (O (QJ (n+3) m (akK (b:=179) (nX hp) hk.a) H H) ?_))))
 congr 2;funext k;simp[Ng,Ea,ef,dF,dZ,aX]
section
variable{N:V}{a q:Rat}
def GF(n:Nat){d:D}{g:Bool}(e:C (n+1030) 136 [d]=some (.bool g)):C (n+1031) 496 [lC N d]=some (.bool (FS N&&(decide (N≠V.zero)&&g))):=by
 rw[agU];delta PC Q qC qT iL iR Jn J0 J3 bF nq qO qc qe qf qh qi qj Z qr qy;refine J (ag N) ?_;refine t8 (r:=if FS N then(1,[]) else(0,[.bool false])) (A8 (m:=3) (λi=>Ww (aX N i)) (λi hi=>?_) ?_ 3 0 rfl) ?_
 ·have c:=aj hi;refine O ah (O ac (au (by show(i:Int)<3;omega) (O c (O (jX hi) (O fS (O ac (O (z:=decide (aX N i ≥ 2305843009213693952)||decide (aX N i<=-2305843009213693952)) ?_ (O ac ?_))))))))
  ·by_cases h1:aX N i ≥ 2305843009213693952
   ·simp_all
   ·rw[zfa h1,zia H,Bool.false_or];exact O ja ac
  ·show _=some (if(!(decide (aX N i ≥ 2305843009213693952)||decide (aX N i<=-2305843009213693952)))=true then Sum.inl [I ((i+1:Nat):Int)] else(.inr (0,[D.bool false]):Sum (List D) (Nat×List D)))
   cases (decide (aX N i ≥ 2305843009213693952)||decide (aX N i<=-2305843009213693952)) with
   | true=>rfl
   | false=>exact(zia H).trans (O (aA (a:=i) (b:=1) u0) rfl)
 ·exact O ah (O ac (aB H rfl))
 ·cases h:FS N with
  | false=>rfl
  | true=>
   refine(zia (show ¬ (1=0) by decide)).trans ?_
   refine J (ag N) (O (z:=decide (N≠V.zero)) ?_ ?_)
   ·rw[ac,KI,decide_not]
   ·refine O (z:=decide (N≠V.zero)&&g) ?_ rfl;by_cases h0:N≠V.zero
    ·rw[zna h0,zla rfl,z6b];exact J d (O e ac)
    ·simp_all
structure Pth where
 x0:V
 q0:Nat->Int
 x1:V
 q1:Nat->Int
def Pth.enc(h:Pth):D:=CG h.x0 h.q0 h.x1 h.q1
structure Pth.Ok(h:Pth):Prop where
 p0:PoseOk h.x0 h.q0
 p1:PoseOk h.x1 h.q1
 b0:bd 1000 h.x0
 b1:bd 1000 h.x1
def yw(h:Pth)(v N:V)(q:Rat):Nat->Int:=Ng (kE h.q0 h.q1) h.x0 h.x1 v N q
def HM{h:Pth}(hh:h.Ok){v:V}(a:bd 4096 v)(hk:PlnOk N q):S (yw h v N q) 3 198:=VY (λi hi=>xP hh.p0.hq hh.p1.hq hi) hh.b0 hh.b1 a hk
def oS(h:Pth)(l:List V)(N:V)(q a t:Rat)(z:Int):Bool:=l.all λv=>wW (ef (yw h v N q) z) a t
theorem QI(n:Nat){h:Pth}(hh:h.Ok){l:List V}(hl:∀ v∈l,bd 4096 v)(hlen:l.length<=100)(hk:PlnOk N q){t:Rat}(ht:TwOk a t){z:Int}(x:z=1\/z=-1) :
  C (n+1036) 497 [h.enc,bw l,I z,lC N (av q),av a,av t]=some (.bool (oS h l N q a t z)):=by
 have F:inR z:=by rcases x with rfl|rfl<;>exact cj _
 have j:z.natAbs<=2^0:=u0
 rw[agV];delta PD Q qS qX iL iR J0 bF bT jl qc qj Z qn qr qy;refine J (bg l) (J (l.map ag) ?_);refine aZ (λi s=>s=[I (i:Int)]/\(l.take i).all (λv=>wW (ef (yw h v N q) z) a t)=true) l.length 0 (zoa _) ⟨rfl,rfl⟩ (λi hi s c=>?_) (λs c=>?_)
 ·obtain⟨rfl,c⟩:=c;have o:=hl _ (zGa hi);have m:=HM hh o hk;have head:∀ {A B:Option (Sum (List D) (Nat×List D))} {Y},(if(!(wW (ef (yw h l[i] N q) z) a t))=true then A else B)=Y->((akk .lss (I (i:Int)) (.int .i64 (l.map ag).length)).bind λw=>(D.truth w).bind λr=>if r=true then((D.asSl (bg l)).bind λp=>(D.idx (I (i:Int)) p.length).bind λk=>(p[k]?).bind λE=>
    (C (n+1035) 500 [h.enc,E,lC N (av q)]).bind λy=>(C (n+1035) 54 [I z]).bind λe=>(C (n+1035) 499 [y,e]).bind λf=>(C (n+1035) 498 [f,av a,av t]).bind λg=>(akz .not g).bind λw=>(D.truth w).bind λd=>if d=true then A else B) else some (.inr (1,[])))=Y:=λ{A B Y} u=>by
   rw[show akk .lss (I (i:Int)) (.int .i64 (l.map ag).length)=some (.bool (decide ((i:Int)<((l.map ag).length:Int)))) from ah,zba,ac,zba,zna (by rw[aG];omega),zla rfl]
   rw[show D.asSl (bg l)=some (l.map ag) from rfl,zba,show D.idx (I (i:Int)) (l.map ag).length=some i from by rw[aG];exact aj hi,zba,EX hi,zba]
   rw[show C (n+1035) 500 [h.enc,ag l[i],lC N (av q)]=some (ar (yw h l[i] N q)) from aeB (n+1025) hh.p0.hq hh.p1.hq hh.b0 hh.b1 o hk,zba,ou (n+1033) F,zba,Cl (n+1030) (b:=0) m j H H,zba]
   rw[aeA n (akK (b:=0) m j) H H ht,zba,aJ,zba,ac,zba]
   exact u
  cases hb:wW (ef (yw h l[i] N q) z) a t with
  | true=>
   left;refine⟨_,head ?_,⟨rfl,?_⟩⟩
   ·rw[hb,zia H];exact O (aA (a:=i) (b:=1) u0) rfl
   ·grind [List.take_succ_eq_append_getElem]
  | false=>
   right;refine⟨(0,[.bool false]),head ?_,?_⟩
   ·rw[hb];rfl
   ·grind [oS,List.all_eq_false]
 ·obtain⟨rfl,c⟩:=c;rw[z8a] at c;refine⟨(1,[]),O ah (O ac (aB (by rw[aG];omega) rfl)),?_⟩
  simp_all [oS]
end
def RawR.val(r:RawR):Option Rat:=open Classical in if h:∃ q,InR q/\r.enc=av q then some h.choose else none
def akN{r:RawR}{q:Rat}(h:r.val=some q):InR q/\r.enc=av q:=by
 unfold RawR.val at h;split at h
 ·grind
 ·cases h
def akM{r:RawR}(h:r.val=none)(a:r.ok):(∀ n,C (n+1030) 136 [r.enc]=some (.bool false))/\(∀ n,C (n+5) 88 [r.enc]=some (.bool false)):=by
 rcases MZ a with hq|hq
 ·simp_all [RawR.val]
 ·exact hq
structure Duo where
 a:Pth
 l:List V
 b:Pth
 m:List V
structure Duo.Ok(d:Duo):Prop where
 a:d.a.Ok
 b:d.b.Ok
 l:∀ v∈d.l,bd 4096 v
 m:∀ v∈d.m,bd 4096 v
 ll:d.l.length<=100
 lm:d.m.length<=100
def yv(d:Duo)(N:V)(q a t:Rat):Bool:=oS d.a d.l N q a t (-1)&&oS d.b d.m N q a t 1
def DY(d:Duo)(N:V)(r:RawR)(a t:Rat):Bool:=FS N&&(decide (N≠V.zero)&&match r.val with|none=>false|some q=>yv d N q a t)
def RawR.few(r:RawR):Prop:=∀ q,r.val=some q->q.num.natAbs<=2^179/\q.den<=2^80
def aex(n:Nat){d:Duo}(c:d.Ok){N:V}{r:RawR}(f:r.ok)(e:r.few){a t:Rat}(ht:TwOk a t) :
  C (n+1037) 483 [lC N r.enc,d.a.enc,bw d.l,d.b.enc,bw d.m,av a,av t]=some (.bool (DY d N r a t)):=by
 rw[YA];delta Ki qT Jn J1 bF qe Z qn;unfold DY;cases hv:r.val with
 | none=> refine O (GF (n+5) ((akM hv f).1 (n+5))) ?_;simp only[Bool.and_false];rfl
 | some q=>
  obtain⟨g,eq⟩:=akN hv;rw[eq];refine O (GF (n+5) (nl (n+5) g)) ?_;cases h1:FS N with
  | false=>rfl
  | true=>
   by_cases h2:N≠V.zero
   ·have hk:PlnOk N q:=⟨λi hi=>Nk h1 hi,(e q hv).1,(e q hv).2⟩;rw[zna h2];refine O aJ (O ac ?_);refine(zia H).trans ?_
    refine O (QI n c.a c.l c.ll hk ht (z:=-1) (.inr rfl)) (O ac (O (z:=yv d N q a t) ?_ rfl));unfold yv;cases h3:oS d.a d.l N q a t (-1) with
    | false=>rfl
    | true=>exact(zla rfl).trans (O (QI n c.b c.m c.lm hk ht (z:=1) (.inl rfl)) ac)
   ·rw[zfa h2];rfl
section
variable{f:Rat}
structure Pce where
 r:RawR
 N:V
 k:RawR
def Pce.enc(p:Pce):D:=.st [p.r.enc,lC p.N p.k.enc]
structure Pce.Ok(p:Pce):Prop where
 r:p.r.ok
 k:p.k.ok
 f:p.k.few
def Ju(f t:Rat):Bool:=decide (f<t)&&(decide (t<=1)&&decide (t.den<=1048576))
def wq(d:Duo):List Pce->Rat->Bool
 | [],f=>decide (f=1)
 | p::l,f=>match p.r.val with
  | none=>false
  | some t=>Ju f t&&(DY d p.N p.k f t&&wq d l t)
structure Tm(f:Rat):Prop where
 a:0<=f
 b:f<=1
 d:f.den<=2^20
theorem Tm.n(h:Tm f):f.num.natAbs<=2^20:=by
 have h0:=Rat.num_nonneg.2 h.a;have h1:f.num<=f.den:=by
  have:=Rat.le_iff f 1 |>.1 h.b
  simp_all
 have:=h.d;omega
theorem Tm.zero:Tm 0:=⟨Rat.le_refl,H,H⟩
def HX{t:Rat}(h:Tm f)(ht:Ju f t=true):Tm t:=by simp only[Ju,X,zea] at ht;exact⟨Rat.le_trans h.a (Rat.le_of_lt ht.1),ht.2.1,ht.2.2⟩
def V4{t:Rat}(h:Tm f)(a:Tm t):TwOk f t:=⟨h.n,h.d,a.n,a.d⟩
def Tm.i(h:Tm f):InR f:=eO.inR (a:=20) (k:=20) ⟨h.n,h.d⟩
def Kt{l:List Pce}{i:Nat}(h:i<l.length):(l.map Pce.enc)[i]?=some l[i].enc:=by simp[h]
def Ku(l:List Pce):(l.map Pce.enc).length=l.length:=zka ..
def WJ(l:List Pce):akk .lss (I (l.length:Int)) (.int .i64 (l.map Pce.enc).length)=some (.bool false):=by rw[Ku,show akk .lss (I (l.length:Int)) (.int .i64 (l.length:Int))=some (.bool (decide (l.length<l.length))) from jq,zfa u0]
def CH{x y:Int}(hx:In x)(a:In y):D.beq (R x) (R y)=decide (x=y):=by rw[bS,bS];simp only[D.beq,D.beqs];rw[kX (aD.1 hx) (aD.1 a)];rw[zOc];simp;omega
def Ub{x y:Rat}(hx:InR x)(a:InR y):D.beq (av x) (av y)=decide (x=y):=by
 show(D.beq (R x.num) (R y.num)&&(D.beq (R x.den) (R y.den)&&true))=_;rw[CH hx.1 a.1,CH hx.2 a.2,zOc];simp only[Bool.and_true,X,zea];constructor
 ·rintro⟨h1,b⟩;exact Rat.ext h1 u0
 ·rintro rfl;exact⟨rfl,rfl⟩
def XW(t:Rat):decide (oT (some t) (some 1)>0)=!decide (t<=1):=by rw[tx,<-decide_not,decide_eq_decide];exact Rat.not_le.symm
def Tl(t f:Rat):decide (oT (some t) (some f)<=0)=!decide (f<t):=SY t f
def Iq{l:List Pce}{i:Nat}(h:i<l.length):l.drop i=l[i]::l.drop (i+1):=zob h
theorem Ll(x y:Int):decide (bk x y>0)=!decide (x<=y):=by unfold bk;grind
def vE{α:Type}{b c:Bool}{X:Option Bool}{K:Bool->Option α}{y:Option α}(e:b=false->X=some c)(d:K (b||c)=y):((if b=true then some true else X).bind λa=>(D.truth (.bool a)).bind K)=y:=by
 cases b with
 | true=>exact d
 | false=>rw[zia H,e rfl];exact d
theorem aew(n:Nat){d:Duo}(hd:d.Ok){l:List Pce}(hl:∀ p∈l,p.Ok)(hlen:l.length<=1000):C (n+1038) 481 [d.a.enc,bw d.l,d.b.enc,bw d.m,.sl (l.map Pce.enc)]=some (.bool (wq d l 0)):=by
 rw[agR];delta Py Q qN qS qX iL iR Jn J0 J1 bF bq jl qO qc qh qj Z qo qr qy qz;refine O (Es (n+5) (x:=0) (cj 0)) (O (Es (n+5) (x:=1) (cj 1)) (J (l.map Pce.enc) ?_));refine aZ (λi s=>∃ f,s=[I (i:Int),av f]/\Tm f/\wq d (l.drop i) f=wq d l 0) l.length 0 (zoa _) ⟨0,rfl,Tm.zero,rfl⟩ (λi hi s e=>?_) (λs e=>?_)
 ·obtain⟨f,rfl,g,e⟩:=e;have hp:=hl _ (zGa hi);rw[Iq hi] at e;have c1:akk .lss (I (i:Int)) (.int .i64 (l.map Pce.enc).length)=some (.bool true):=by rw[Ku,show akk .lss (I (i:Int)) (.int .i64 (l.length:Int))=some (.bool (decide (i<l.length))) from jq,zna hi]
  have c2:D.idx (I (i:Int)) (l.map Pce.enc).length=some i:=by rw[Ku];exact aj hi
  cases hv:l[i].r.val with
  | none=>
   right;refine⟨(0,[.bool false]),?_,?_⟩
   ·refine O c1 (O ac (fW (J (l.map Pce.enc) (O c2 (O (Kt hi) (J (l[i].r.enc) (O ((akM hv hp.r).1 (n+7)) (O aJ (O ac ?_)))))))));rfl
   ·simp_all [wq]
  | some t=>
   obtain⟨it,et⟩:=akN hv;have hT:D.get l[i].enc [0]=some (av t):=by rw[<-et];rfl
   have hD:D.get l[i].enc [0,1]=some (R t.den):=by show(some l[i].r.enc).bind (λy=>D.get y [1])=_;rw[et];rfl
   have hK:D.get l[i].enc [1]=some (lC l[i].N l[i].k.enc):=rfl;have bits:∀ {A B:Option (Sum (List D) (Nat×List D))} {Y},(if(!(Ju f t&&DY d l[i].N l[i].k f t))=true then A else B)=Y->((D.get l[i].enc [0]).bind λP=>(C (n+1037) 136 [P]).bind λa1=>(akz .not a1).bind λw=>(D.truth w).bind λh=>
     (if h=true then(some true) else(D.get l[i].enc [0]).bind λa5=>(C (n+1037) 73 [a5,av f]).bind λa0=>(akk .leq a0 (.int .i64 0)).bind λa4=>D.truth a4).bind λj=>(D.truth (.bool j)).bind λo=>
     (if o=true then(some true) else(D.get l[i].enc [0]).bind λS=>(C (n+1037) 73 [S,av ((1:Int):Rat)]).bind λK=>(akk .gtr K (.int .i64 0)).bind λT=>D.truth T).bind λq=>(D.truth (.bool q)).bind λu=>
     (if u=true then(some true) else(D.get l[i].enc [0,1]).bind λU=>(C (n+1037) 54 [.int .i64 1048576]).bind λL=>(C (n+1037) 90 [U,L]).bind λM=>(akk .gtr M (.int .i64 0)).bind λV=>D.truth V).bind λv=>(D.truth (.bool v)).bind λa3=>
     (if a3=true then(some true) else(D.get l[i].enc [1]).bind λW=>(D.get l[i].enc [0]).bind λa6=>(C (n+1037) 483 [W,d.a.enc,bw d.l,d.b.enc,bw d.m,av f,a6]).bind λz=>(akz .not z).bind λa2=>D.truth a2).bind λE=>(D.truth (.bool E)).bind λF=>if F=true then A else B)=Y:=λ{A B Y} hY=>by
    rw[hT,zba,nl (n+7) it,zba,aJ,zba,ac,zba];refine vE (c:=!decide (f<t)) (λ_=>?_) (vE (c:=!decide (t<=1)) (λ_=>?_) (vE (c:=!decide (t.den<=1048576)) (λ_=>?_) (vE (c:=!(DY d l[i].N l[i].k f t)) (λhb=>?_) ?_)))
    ·rw[zba];exact O (yh (n+6) (a:=some t) (b:=some f) (aH it) (aH g.i)) (O ja (by rw[ac,Tl]))
    ·rw[zba];exact O (yh (n+6) (a:=some t) (b:=some ((1:Int):Rat)) (aH it) (aH (mf (a:=0) H).inR)) (O cn (by rw[ac];exact zIa some (XW t)))
    ·rw[hD,zba];refine O (ou (n+1035) (x:=1048576) (cj _)) (O (NO (n+1033) it.2 (bB (cj _))) (O cn ?_));rw[ac,Ll];congr 2;rw[decide_eq_decide];omega
    ·rw[hK,zba,zba];have G:Ju f t=true:=by
      simp_all [Ju]
     exact O (aex n hd hp.k hp.f (V4 g (HX g G))) (O aJ ac)
    ·grind [Ju]
   have hc:wq d l 0=(Ju f t&&(DY d l[i].N l[i].k f t&&wq d (l.drop (i+1)) t)):=by rw[<-e];simp only[wq,hv]
   cases hok:Ju f t&&DY d l[i].N l[i].k f t with
   | false=>
    right;refine⟨(0,[.bool false]),?_,?_⟩
    ·refine O c1 (O ac (fW (J (l.map Pce.enc) (O c2 (O (Kt hi) (bits ?_))))));rw[hok];rfl
    ·rw[hc,<-Bool.and_assoc,hok];rfl
   | true=>
    left;rw[X] at hok;refine⟨_,?_,t,rfl,HX g hok.1,?_⟩
    ·refine O c1 (O ac (fW (J (l.map Pce.enc) (O c2 (O (Kt hi) (bits ?_))))));rw[hok.1,hok.2];exact(zia H).trans (O hT (O (aA (a:=i) (b:=1) u0) rfl))
    ·rw[hc,hok.1,hok.2];rfl
 ·obtain⟨f,rfl,g,e⟩:=e;rw[zFc] at e;refine⟨(1,[av f]),O (WJ l) (O ac rfl),?_⟩;rw[<-e];refine(zia (show ¬ (1=0) by decide)).trans ?_
  show some (D.bool (D.beq (av f) (av ((1:Int):Rat))))=_;rw[Ub g.i (mf (a:=0) H).inR];rfl
end
structure Duo.Few(d:Duo)(k:Nat):Prop where
 ok:d.Ok
 l:d.l.length<=k
 m:d.m.length<=k
 hl:Hul d.l
 hm:Hul d.m
def Duo.pose(d:Duo)(k:Nat):V×(Nat->Int):=if k=0 then(d.a.x0,d.a.q0) else if k=1 then(d.a.x1,d.a.q1) else if k=2 then(d.b.x0,d.b.q0) else(d.b.x1,d.b.q1)
def Duo.poses(d:Duo):List D:=[dW d.a.x0 d.a.q0,dW d.a.x1 d.a.q1,dW d.b.x0 d.b.q0,dW d.b.x1 d.b.q1]
def Duo.get{d:Duo}{i:Nat}(h:i<4):d.poses[i]?=some (dW (d.pose i).1 (d.pose i).2):=by
 have:i=0\/i=1\/i=2\/i=3:=u0
 rcases this with rfl|rfl|rfl|rfl<;>rfl
def aet(n:Nat)(d:Duo){m:Nat}(hm:m<=100):∃ v:Bool,C (n+11) 471 [d.a.enc,bw d.l,d.b.enc,bw d.m,I (m:Int)]=some (.bool v)/\(v=true->d.Few m):=by
 suffices h:∃ y,C (n+11) 471 [d.a.enc,bw d.l,d.b.enc,bw d.m,I (m:Int)]=some y/\∃ v:Bool,y=.bool v/\(v=true->d.Few m) by grind
 have bad:∃ v:Bool,D.bool false=.bool v/\(v=true->d.Few m):=⟨false,rfl,λh=>by cases h⟩
 rw[agN];delta Pu Q qC qT qV qW iL iR Jn J0 J3 bF qO qc qe qf qh qi qj Z qn qr qy;refine aq (z:=dW d.a.x0 d.a.q0) rfl (aq (z:=dW d.a.x1 d.a.q1) rfl (aq (z:=dW d.b.x0 d.b.q0) rfl (aq (z:=dW d.b.x1 d.b.q1) rfl ?_)));refine nK (λi s=>s=[.sl d.poses,I (i:Int)]/\∀ t,t<i->bd 1000 (d.pose t).1/\PoseOk (d.pose t).1 (d.pose t).2) 4 0 (zoa _) ⟨rfl,λt h=>u0⟩ (λi hi s c=>?_) (λs c=>?_)
 ·obtain⟨rfl,c⟩:=c;have f:=aj (n:=4) hi;have o:(D.els (D.sl d.poses))[i]?=some (dW (d.pose i).1 (d.pose i).2):=Duo.get hi;refine aq ah (aq ac (iT (by show(i:Int)<4;omega) ?_))
  refine nK (λk s=>s=[.sl d.poses,I (k:Int)]/\∀ t,t<k->aX (d.pose i).1 t<=1000/\-1000<=aX (d.pose i).1 t) 3 0 (zoa _) ⟨rfl,λt h=>u0⟩ (λk hk s g=>?_) (λs g=>?_)
  ·obtain⟨rfl,g⟩:=g;refine aq ah (aq ac (iT (by show(k:Int)<3;omega) ?_))
   refine aq f (aq o (aq (z:=ag (d.pose i).1) rfl (aq (z:=k) (aj hk) (aq (jX hk) (aq cn (aq ac ?_))))));by_cases h1:aX (d.pose i).1 k>1000
   ·refine aq (z:=true) (by rw[zna h1];rfl) (aq (z:=true) rfl ⟨.inr (0,[.bool false]),rfl,.inr (0,[.bool false]),rfl,.bool false,rfl,bad⟩)
   ·refine aq (z:=decide (aX (d.pose i).1 k < -1000)) ?_ (aq ac ?_)
    ·rw[zfa h1,zia H]
     exact O f (O o (J (ag (d.pose i).1) (O (z:=k) (aj hk) (O (jX hk) (O ah ac)))))
    ·by_cases j:aX (d.pose i).1 k < -1000
     ·simp_all
     ·refine AP j ⟨.inl [.sl d.poses,I ((k+1:Nat):Int)],O (aA (a:=k) (b:=1) u0) rfl,rfl,λt ht=>?_⟩
      all_goals grind
  ·obtain⟨rfl,g⟩:=g;obtain⟨v,h1,j⟩:=aeo (n+6) (d.pose i).1 (d.pose i).2;refine⟨.inr (1,[.sl d.poses]),O ah (O ac (aB H rfl)),?_⟩
   cases v with
   | false=>exact⟨.inr (0,[.bool false]),O f (O o (O h1 (J (.bool true) (J true rfl)))),.bool false,rfl,bad⟩
   | true=>
    refine⟨.inl [.sl d.poses,I ((i+1:Nat):Int)],O f (O o (O h1 (J (.bool false) (J false ((zia H).trans (O (aA (a:=i) (b:=1) u0) rfl)))))),rfl,λt ht=>?_⟩
    by_cases e:t=i
    ·subst e;exact⟨GM g,j rfl⟩
    ·grind
 ·obtain⟨rfl,c⟩:=c;refine⟨.inr (1,[]),O ah (O ac (aB H rfl)),?_⟩
  obtain⟨v,h1,j⟩:=ST n d.l hm;obtain⟨w,r,u⟩:=ST n d.m hm;refine⟨.bool (v&&w),?_,v&&w,rfl,λh=>?_⟩
  ·refine(zia (show ¬ (1=0) by decide)).trans ?_
   refine O h1 (O ac (O (z:=v&&w) ?_ rfl));cases v with
   | false=>rfl
   | true=>exact(zla rfl).trans (O r ac)
  ·simp only[X] at h;obtain⟨l1,x,A⟩:=j h.1;obtain⟨m1,G,m3⟩:=u h.2;have p0:=c 0 H;have p1:=c 1 H;have p:=c 2 H;have q:=c 3 H
   exact⟨⟨⟨p0.2,p1.2,p0.1,p1.1⟩,⟨p.2,q.2,p.1,q.1⟩,x,G,u0,u0⟩,l1,m1,A,m3⟩
def Cm(k:Nat)(f:Nat)(xs:List D):Option D:=if f=473 then VO 473 xs else C k f xs
def Lc(k:Nat):gf Tryz.prog (Cm k):=by
 intro f a b xs y d c hw;unfold Cm at c;split at c
 ·rename_i e;exact RU f a b xs y d (by rw[e];exact c) hw
 ·exact wl qD k f a b xs y d c hw
def TS{d:D}(f:wt h d):∃ v:V,d=ag v:=by
 obtain⟨l,rfl,hl,f⟩:=f
 match l,hl with
 | [a,b,c],_=>
  obtain⟨x,rfl⟩:=f a j2
  obtain⟨y,rfl⟩:=f b j2
  obtain⟨z,rfl⟩:=f c j2
  exact⟨⟨x,y,z⟩,rfl⟩
def SH{α:Type}{t:Ty}{e:α->D}(he:∀ d,wt t d->∃ v,d=e v){d:D}(h:wt (.sl t) d):∃ l:List α,d=.sl (l.map e):=by
 obtain⟨l,rfl,h⟩:=h;have key:∀ l:List D,(∀ x∈l,wt t x)->∃ m:List α,l=m.map e:=by
  intro l
  induction l with
  | nil=>intro _;exact⟨[],rfl⟩
  | cons x l ih=>
   intro h;obtain⟨v,rfl⟩:=he x (h x j2)
   obtain⟨m,rfl⟩:=ih λy a=>h y (by simp[a])
   exact⟨v::m,rfl⟩
 obtain⟨m,rfl⟩:=key l h;exact⟨m,rfl⟩
def TT{d:D}(h:wt K3 d):∃ l:List V,d=bw l:=by obtain⟨l,rfl,d,l',rfl,h1,b⟩:=h;have a:l'=[]:=b;subst a;obtain⟨m,rfl⟩:=SH (e:=ag) (λd h=>TS h) h1;exact⟨m,rfl⟩
def Wi{d:D}(h:wt fR d):∃ q:Nat->Int,d=gG q:=by
 obtain⟨l,rfl,hl,h⟩:=h
 match l,hl with
 | [a,b,c,e],_=>
  obtain⟨x,rfl⟩:=h a j2
  obtain⟨y,rfl⟩:=h b j2
  obtain⟨z,rfl⟩:=h c j2
  obtain⟨w,rfl⟩:=h e j2
  exact⟨λi=>[x,y,z,w].getD i 0,rfl⟩
def NJ{d:D}(h:wt jp d):∃ (x:V) (q:Nat->Int),d=dW x q:=by obtain⟨l,rfl,d1,l1,rfl,h1,d2,e,rfl,b,c⟩:=h;have a:e=[]:=c;subst a;obtain⟨v,rfl⟩:=TS h1;obtain⟨q,rfl⟩:=Wi b;exact⟨v,q,rfl⟩
def NK{d:D}(h:wt dG d):∃ p:Pth,d=p.enc:=by obtain⟨l,rfl,d1,l1,rfl,h1,d2,e,rfl,b,c⟩:=h;have a:e=[]:=c;subst a;obtain⟨x0,q0,rfl⟩:=NJ h1;obtain⟨x1,q1,rfl⟩:=NJ b;exact⟨⟨x0,q0,x1,q1⟩,rfl⟩
section
variable{f:Nat->Int}{N:Int}
def mS(f:Nat->Int)(q:Rat):Rat:=(f 0:Rat)+(f 1:Rat)*q+(f 2:Rat)*(q*q)+(f 3:Rat)*(q*q*q)
def uH(f:Nat->Int)(N D:Int)(m:Nat):Nat->Int
 | 0=>0
 | j+1=>uH f N D m j*N+f (m-1-j)*D^j
theorem Te{e b:Nat}(c:S f e b){D:Int}(hN:N.natAbs<=2^20)(a:D.natAbs<=2^20)(m:Nat):∀ j,(uH f N D m j).natAbs<=j*2^(b+20*j)
 | 0=>by simp[uH]
 | j+1=>by
  have h1:(uH f N D m (j+1)).natAbs<=(uH f N D m j*N).natAbs+(f (m-1-j)*D^j).natAbs:=zPb ..;have d:(uH f N D m j*N).natAbs<=j*2^(b+20*(j+1)):=by
   rw[zwa,show b+20*(j+1)=b+20*j+20 by omega,z5a _ _ 20,<-zkb]
   exact zFa (Te c hN a m j) hN
  have g:(f (m-1-j)*D^j).natAbs<=2^(b+20*(j+1)):=by rw[zwa];refine zva (zFa (c.2 _) (DE a j)) ?_;grind
  grind
theorem AZ{e b:Nat}(c:S f e b)(h:b<=200){D:Int}(hN:N.natAbs<=2^20)(a:D.natAbs<=2^20){m j:Nat}(d:j<=4):(uH f N D m j).natAbs<=2^(b+82):=by
 have h1:=Te c hN a m j;have g:j*2^(b+20*j)<=4*2^(b+80):=zFa d (zqa H u0)
 grind
structure T20(t:Rat):Prop where
 a:t.num.natAbs<=2^20
 d:t.den<=2^20
def T20.i{t:Rat}(h:T20 t):InR t:=eO.inR (a:=20) (k:=20) ⟨h.a,h.d⟩
def Uv(n:Nat){a:Rat}(b:InR a):C (n+1031) 547 [.sl [av a]]=some (.bool true):=by
 rw[YD];delta Kl P qS qX iL iR Jn J0 jl qc qj Z qn qy;refine J [av a] ?_;refine cC (s':=[I 1]) (J (.bool true) (J true (fW (J [av a] (J 0 (J (av a) ?_)))))) ?_
 ·exact O (nl n b) (O aJ (O ac ((zia H).trans rfl)))
 exact fg (r:=(1,[])) rfl rfl
theorem aeG(n:Nat){e b:Nat}(c:S f e b)(he:e<=3)(o:b<=200){t:Rat}(ht:T20 t) :
  C (n+1032) 536 [ar f,av t]=some (.tup [R (uH f t.num t.den (K f).length (K f).length),R ((t.den:Int)^((K f).length-1))]):=by
 have l1:=dI c u0
 have hL:=fr c u0
 have h:=c8 ht.d;have iv:∀ j,j<=4->In (uH f t.num t.den (K f).length j):=λj g=>bJ (k:=b+82) u0 (AZ c o ht.a h g)
 have p:∀ j,j<4->In (uH f t.num t.den (K f).length j*t.num):=λj g=>bJ (k:=b+102) u0 (bK (AZ c o ht.a h u0) ht.a u0)
 have r:∀ j,j<=4->In ((t.den:Int)^j):=λj g=>sK h H g
 have m:∀ i j,j<4->In (f i*(t.den:Int)^j):=λi j g=>bJ (k:=b+80) u0 (bK (c.2 i) (DE h j) u0)
 rw[ahe];delta PY Q P qT qS qX iL iR J0 J1 bF jl qO qc Z qy qz;refine O (rG (n+1028) hL u0) (O ac (O (z:=false) ?_ (O ac ?_)))
 ·rw[zia H];exact O (Uv n ht.i) (O aJ ac)
 rw[zia H]
 refine J (R t.den) (J ((K f).map R) (O (z:=aE (tf (t.den:Int) (max (K f).length 1))) (by rw[zka];exact Xr (n+1027) h H u0) (J ((K f).map R) ?_)))
 refine O (z:=I ((K f).length-1:Int)) (by rw[zka];exact bW (by simp only[inR];omega)) ?_
 refine O (z:=(0,[ar f,av t,R (uH f t.num t.den (K f).length (K f).length),R 0,aE (tf (t.den:Int) (max (K f).length 1))])) ?_ ?_
 ·refine eP (λj s=>s=[I ((K f).length-1-(j:Int)),ar f,av t,R (uH f t.num t.den (K f).length j),R 0,aE (tf (t.den:Int) (max (K f).length 1))]) (K f).length (by rw[ztd,Int.sub_zero,rt];rfl) (λj g s l=>?_) (λs l=>?_)
  ·subst l;have q:((K f).length-1-(j:Int))=(((K f).length-1-j:Nat):Int):=u0
   refine⟨_,?_,rfl⟩;refine O As (O ac (au u0 ?_))
   refine J ((K f).map R) (O (z:=(K f).length-1-j) (by rw[q];exact kG u0) (O (jS u0) (J (R t.num) (O (js (n+1028) (iv j u0) (bJ (k:=20) H ht.a) (p j u0)) (J ((K f).map R) ?_)))))
   refine O (z:=I ((K f).length-1:Int)) (by rw[zka];exact bW (by simp only[inR];omega)) (O (z:=I (j:Int)) ?_ ?_)
   ·show akk .sub (I ((K f).length-1:Int)) (I ((K f).length-1-(j:Int)))=_;grind [bW,inR]
   refine J ((tf (t.den:Int) (max (K f).length 1)).map R) (O (kG (by rw[jK];omega)) (O (jS (by rw[jK];omega)) ?_))
   rw[vK u0,bN c he]
   refine O (js (n+1028) (o8 c u0 _) (r j u0) (m _ j u0)) (O (rH (n+1027) (p j u0) (m _ j u0) (iv (j+1) u0)) (O (bW (by simp only[inR];omega)) ?_))
   rw[show((K f).length-1-(j:Int)-1)=((K f).length-1-((j+1:Nat):Int)) by omega];rfl
  ·subst l;exact O As (O ac (aB u0 rfl))
 refine J ((K f).map R) (O (z:=I ((K f).length-1:Int)) (by rw[zka];exact bW (by simp only[inR];omega)) (O (z:=I ((K f).length-1:Nat)) ?_ ?_))
 ·rw[show D.max2 (.int .i64 0) (I ((K f).length-1:Int))=some (I (max 0 ((K f).length-1:Int))) from sB];congr 2;omega
 refine J ((tf (t.den:Int) (max (K f).length 1)).map R) (O (kG (by rw[jK];omega)) (O (jS (by rw[jK];omega)) ?_))
 rw[vK u0];rfl
def wC(t:Rat):((t.den:Int):Rat)≠0:=by
 have:=t.den_pos;intro h0
 simp_all
def po(t:Rat):(t.num:Rat)=t*((t.den:Int):Rat):=by
 have h:(t.num:Rat)/((t.den:Int):Rat)=t:=by rw[<-Rat.divInt_eq_div];exact z7a t
 calc (t.num:Rat)=(t.num:Rat)/((t.den:Int):Rat)*((t.den:Int):Rat):=(Rat.div_mul_cancel (wC t)).symm
  _=t*((t.den:Int):Rat):=by rw[h]
theorem XO{m:Nat}(hm:m<=4)(h:∀ k,m<=k->f k=0)(t:Rat):((uH f t.num t.den m m:Int):Rat)=mS f t*((((t.den:Int)^(m-1):Int)):Rat):=by
 have e:=po t;have key:m=0\/m=1\/m=2\/m=3\/m=4:=u0
 unfold mS;rcases key with rfl|rfl|rfl|rfl|rfl
 ·rw[h 0 u0,h 1 u0,h 2 u0,h 3 u0];simp[uH,Rat.add_zero]
 ·rw[h 1 u0,h 2 u0,h 3 u0];simp[uH,Rat.add_zero]
 ·rw[h 2 u0,h 3 u0];simp only[uH];simp[Rat.intCast_add,Rat.intCast_mul];rw[e];grind
 ·rw[h 3 u0];simp only[uH];simp[Rat.intCast_add,Rat.intCast_mul,Int.pow_succ];rw[e];grind
 ·simp only[uH];simp[Rat.intCast_add,Rat.intCast_mul,Int.pow_succ];rw[e];grind
theorem AO{m:Nat}(hm:m<=4)(h:∀ k,m<=k->f k=0)(t:Rat):Rat.divInt (uH f t.num t.den m m) ((t.den:Int)^(m-1))=mS f t:=by
 have h0:((((t.den:Int)^(m-1):Int)):Rat)≠0:=by
  intro h1;have a:((t.den:Int)^(m-1))=0:=Rat.intCast_inj.1 (by rw[h1];rfl)
  have:=Int.pow_pos (n:=(t.den:Int)) (m:=m-1) (by have:=t.den_pos;omega)
  omega
 rw[Rat.divInt_eq_div,XO hm h t];grind
def Ur(n:Nat){e b:Nat}(c:S f e b)(he:e<=3)(h:b<=200){t:Rat}(ht:T20 t):C (n+1033) 506 [ar f,av t]=some (av (mS f t)):=by
 have l1:=dI c u0
 have g:=c8 ht.d;rw[ag0];unfold PJ;refine O (aeG n c he h ht) (J (R (uH f t.num t.den (K f).length (K f).length)) (J (R ((t.den:Int)^((K f).length-1))) ?_));refine O (KY (n+2) (bJ (k:=b+82) u0 (AZ c h ht.a g u0)) (sK g H u0) ?_) ?_
 ·have:=Int.pow_pos (n:=(t.den:Int)) (m:=(K f).length-1) (by have:=t.den_pos;omega)
  omega
 ·rw[AO u0 (λk hk=>nD c he hk) t]
end
section
variable{h:Pth}{N:V}{a:Option Rat}{f:Nat->Int}
def Pth.p(h:Pth):Nat->Nat->Int:=kE h.q0 h.q1
def Pth.Ok.hp(hh:h.Ok):∀ i,i<4->S (h.p i) 1 7:=λi hi=>xP hh.p0.hq hh.p1.hq hi
def lh(h:Pth)(v:V)(t:Rat)(i:Nat):Rat:=mS (fH h.p h.x0 h.x1 v i) t
def lQ(h:Pth)(t:Rat):Rat:=mS (nW h.p) t
def KC(h:Pth)(v:V)(t:Rat):WV:=λi=>wF (some (lh h v t i)) (some (lQ h t))
def QZ{e b:Nat}(c:S f e b)(he:e<=3)(h:b<=200){t:Rat}(ht:T20 t):eO (mS f t) (b+82) 60:=by
 have g:=c8 ht.d;have l1:=dI c he;rw[<-AO (m:=(K f).length) u0 (λk hk=>nD c he hk) t]
 refine eG (AZ c h ht.a g u0) ?_ ?_
 ·refine zva (DE g _) (zqa H u0)
 ·have:=Int.pow_pos (n:=(t.den:Int)) (m:=(K f).length-1) (by have:=t.den_pos;omega)
  omega
def LG{e b:Nat}(c:S f e b)(he:e<=3)(a:b<=200){t:Rat}(ht:T20 t):InR (mS f t):=(QZ c he a ht).inR u0 H
def T7(h:Pth)(v:V)(t:Rat):WK (KC h v t):=λi=>GX _ _
def aey(n:Nat)(hh:h.Ok){v:V}(e:bd 4096 v){t:Rat}(ht:T20 t):C (n+1034) 486 [h.enc,ag v,av t]=some (uC (KC h v t)):=by
 have d:=nX hh.hp;rw[agT];delta PA qJ iL iR J0 J3 bF qc qi qj Z qp qs qy;refine O (show C (n+1033) 505 [h.enc,ag v]=some (.tup [yX h.p h.x0 h.x1 v,ar (nW h.p)]) from Xl (n+1024) hh.p0.hq hh.p1.hq hh.b0 hh.b1 e) (J (yX h.p h.x0 h.x1 v) (J (ar (nW h.p)) ?_));obtain⟨j,f⟩:∃ j,j=(D.st [(D.st [(D.bool false),(D.bool false),(az bf)]),(D.st [(D.bool false),(D.bool false),(az bf)])]):=⟨_,rfl⟩;refine aZ (λi s=>s=[I (i:Int),iI 3 (rl j (λi=>bH (KC h v t i)) i)]) 3 0 (zoa _) (by rw[f];rfl) (λi hi s c=>?_) (λs c=>?_)
 ·subst c;left;refine⟨_,?_,rfl⟩;refine O ah (O ac (au (by show(i:Int)<3;omega) (qJ_row (λi=>ar (fH h.p h.x0 h.x1 v i)) hi ?_)))
  have hx:=gV hh.hp hh.b0 hh.b1 e hi;refine O (Ur n hx H H ht) (O (Ur n d H H ht) ?_)
  refine O (show C (n+1033) 352 [av (lh h v t i),av (lQ h t)]=some (bH (KC h v t i)) from yI (n+1) (a:=some (lh h v t i)) (b:=some (lQ h t)) (aH (LG hx H H ht)) (aH (LG d H H ht))) ?_
  exact O (aj hi) (O (od (p:=λi=>bH (KC h v t i)) hi) (O (aA (a:=i) (b:=1) u0) rfl))
 ·subst c;refine⟨_,O ah (O ac (aB H rfl)),?_⟩
  rw[lY];rfl
def TE(h:Pth)(N v:V)(t:Rat):Option Rat:=L5 (Zv N) (KC h v t)
def FM(h:Pth)(N v:V)(t:Rat):OW (TE h N v t):=Rf _ _
def IK:Option Rat->Option Rat->Option Rat
 | some x,some y=>if x<y then some y else some x
 | _,_=>none
theorem Be(x y:Rat):IK (some x) (some y)=if x<y then some y else some x:=rfl
theorem Ro{b:Option Rat}(c:OW a)(d:OW b):OW (IK a b):=by
 cases a with
 | none=>exact kF
 | some x=>
  cases b with
  | none=>exact kF
  | some y=> all_goals grind [Be]
theorem EH(x y:Rat):decide (oT (some x) (some y)<0)=decide (x<y):=by rw[GO,decide_eq_decide];all_goals grind
theorem aeg(n:Nat){b:Option Rat}(c:OW a)(d:OW b):C (n+1032) 337 [bH a,bH b]=some (bH (IK a b)):=by
 rw[agt];delta O7 qN J0 qO qc Z qz;refine O (gJ (n+1) c) (O aJ (O ac (O (z:=!(a.isSome&&b.isSome)) ?_ (O ac ?_))))
 ·cases hA:a.isSome with
  | false=>rfl
  | true=>exact(zia H).trans (O (gJ (n+1) d) (O aJ ac))
 ·cases a with
  | none=>exact(zla rfl).trans (O (wg (n+1027)) rfl)
  | some x=>
   cases b with
   | none=>exact(zla rfl).trans (O (wg (n+1027)) rfl)
   | some y=>
    refine(zia (show ¬ ((!(true&&true))=true) by decide)).trans (O (yh n c d) (O ah (O ac ?_)))
    all_goals grind [EH,Be]
def JS(h:Pth)(N:V)(ts:Nat->Rat)(v:V):Nat->Option Rat->Option Rat
 | 0,a=>a
 | k+1,a=>IK (JS h N ts v k a) (TE h N v (ts k))
def Zq(h:Pth)(N:V)(ts:Nat->Rat)(l:List V):Option Rat:=l.foldl (λa v=>JS h N ts v 3 a) (TE h N (l.headD V.zero) (ts 0))
theorem EY{ts:Nat->Rat}{v:V}(b:OW a):∀ k,OW (JS h N ts v k a)
 | 0=>b
 | k+1=>Ro (EY b k) (FM h N v (ts k))
theorem Hc{ts:Nat->Rat}:∀ (l:List V) {a:Option Rat},OW a->OW (l.foldl (λa v=>JS h N ts v 3 a) a)
 | [],_,b=>b
 | v::l,a,b=>Hc l (EY b 3)
def LB(ts:Nat->Rat):D:=.st [av (ts 0),av (ts 1),av (ts 2)]
def Kx{ts:Nat->Rat}{k:Nat}(h:k<3):D.fld (LB ts) k=some (av (ts k)):=by
 have:k=0\/k=1\/k=2:=u0
 rcases this with rfl|rfl|rfl<;>rfl
def KL(hN:∀ i,i<3->(aX N i).natAbs<=2^61):∀ i,inR (aX N i):=λi=>by
 by_cases h:i<3
 ·exact Ay (hN i h)
 ·have e:aX N i=aX N 2:=by unfold aX;rw[zia u0,zia u0];rfl
  rw[e];exact Ay (hN 2 H)
def Xm(n:Nat)(hh:h.Ok)(hN:∀ i,i<3->(aX N i).natAbs<=2^61){l:List V}(hl:∀ v∈l,bd 4096 v)(hlen:0<l.length/\l.length<=100){ts:Nat->Rat}(ht:∀ k,k<3->T20 (ts k)) :
  C (n+1035) 507 [ag N,h.enc,bw l,LB ts]=some (bH (Zq h N ts l)):=by
 have j:∀ {v:V} {k:Nat} {α:Type} {K:D->Option α} {y:Option α},bd 4096 v->k<3->K (bH (TE h N v (ts k)))=y->((C (n+1034) 486 [h.enc,ag v,av (ts k)]).bind λr=>(C (n+1034) 72 [ag N,r]).bind K)=y:=λ{v k α K y} f hk d=>by rw[aey n hh f (ht k hk),zba,aeV n (KL hN) (T7 h v (ts k)),zba];exact d
 obtain⟨v0,l0,c⟩:∃ v0 l0,l=v0::l0:=by
  cases l with
  | nil=>exact zgb hlen.1 H
  | cons a b=>exact⟨a,b,rfl⟩
 have h0:=hl v0 (by rw[c];simp)
 have o:l.headD V.zero=v0:=by rw[c];rfl
 rw[ag1];delta PK Q qS qX qY iL iR J0 J3 jl qc qf qi qj Z qy;refine J (bg l) (J (l.map ag) (O (z:=0) (by rw[aG];exact aj (i:=0) hlen.1) (O (z:=ag v0) (by rw[c];rfl) (J (av (ts 0)) (j h0 H (J (bg l) (J (l.map ag) ?_)))))))
 refine aZ (λi s=>s=[I (i:Int),bH ((l.take i).foldl (λa v=>JS h N ts v 3 a) (TE h N v0 (ts 0)))]) l.length 0 (zoa _) rfl (λi hi s e=>?_) (λs e=>?_)
 ·subst e;left;have f:=hl _ (zGa hi);obtain⟨a,g⟩:∃ a,a=(l.take i).foldl (λa v=>JS h N ts v 3 a) (TE h N v0 (ts 0)):=⟨_,rfl⟩;have m:OW a:=by rw[g];exact Hc _ (FM h N _ _)
  rw[zxa hi,List.foldl_append,<-g];refine⟨[I ((i+1:Nat):Int),bH (JS h N ts l[i] 3 a)],?_,rfl⟩;refine O (z:=.bool true) (by show akk .lss (I (i:Int)) (.int .i64 (l.map ag).length)=_;rw[show akk .lss (I (i:Int)) (.int .i64 (l.map ag).length)=some (.bool (decide ((i:Int)<((l.map ag).length:Int)))) from ah,zna (by rw[aG];omega)]) (O ac (fW (J (l.map ag) (O (z:=i) (by rw[aG];exact aj hi) (O (EX hi) ?_)))))
  refine O (z:=(0,[bH (JS h N ts l[i] 3 a)])) ?_ (O (aA (a:=i) (b:=1) u0) rfl)
  refine eP (λk s=>s=[I (k:Int),bH (JS h N ts l[i] k a)]) 3 rfl (λk hk s d=>?_) (λs d=>?_)
  ·subst d;refine⟨_,O ah (O ac (au (by show(k:Int)<3;omega) (O (aj hk) (O (Kx hk) (j f hk (O (aeg (n+2) (EY m k) (FM h N _ _)) (O (aA (a:=k) (b:=1) u0) rfl))))))),rfl⟩
  ·subst d;exact O ah (O ac (aB H rfl))
 ·subst e;refine⟨_,O (z:=.bool false) (by show akk .lss (I (l.length:Int)) (.int .i64 (l.map ag).length)=_;rw[show akk .lss (I (l.length:Int)) (.int .i64 (l.map ag).length)=some (.bool (decide ((l.length:Int)<((l.map ag).length:Int)))) from ah,zfa (by rw[aG];omega)]) (O ac rfl),?_⟩
  simp_all [z8a,Zq]
def Vx(a b:Option Rat):Option Rat:=mulW (addW a b) (some (Rat.divInt 1 2))
def L0:InR (Rat.divInt 1 2):=gh (bB (cj 1)) (bB (cj 2)) H
def Xf(n:Nat){a b:Int}(c:inR a)(d:inR b)(h0:b≠0):C (n+1031) 333 [I a,I b]=some (av (Rat.divInt a b)):=by rw[agr];unfold O5;exact O (ou (n+1028) c) (O (ou (n+1028) d) (O (KY n (bB c) (bB d) h0) rfl))
def Uq(n:Nat){a b:Option Rat}(c:OW a)(d:OW b):C (n+1033) 485 [bH a,bH b]=some (bH (Vx a b)):=by rw[agS];delta Pz J1 J2 Z;exact O (yH (n+1) c d) (O (Xf (n+1) (a:=1) (b:=2) (cj 1) (cj 2) H) (O (GD (n+1) (rD a b) (b:=some (Rat.divInt 1 2)) (aH L0)) rfl))
end
section
variable{a c:Nat}{q:Rat}
theorem HO{b d:Nat}(e:b≠0)(f:d≠0)(h:¬ (if a%b=0 then a/b else a/b+1)*d<=c):(c-a/b*d)+a%b<b+d:=by have h1:=zVa a (Nat.pos_of_ne_zero e);grind [Nat.add_one_mul]
def gY(a b c d:Nat):Nat×Nat:=
 if hb:b=0 then(a,b) else if hd:d=0 then(a,b) else
 if h:(if a%b=0 then a/b else a/b+1)*d<=c then(if a%b=0 then a/b else a/b+1,1)
 else let r:=gY d (c-a/b*d) b (a%b);(a/b*r.1+r.2,r.1)
termination_by b+d
decreasing_by exact HO hb hd h
def zZ{a b d:Nat}(e:0<b)(f:0<d)(h:(if a%b=0 then a/b else a/b+1)*d<=c):gY a b c d=(if a%b=0 then a/b else a/b+1,1):=by rw[gY,dif_neg u0,dif_neg u0,dif_pos h]
def HN{a b d:Nat}(e:0<b)(f:0<d)(h:¬ (if a%b=0 then a/b else a/b+1)*d<=c):gY a b c d=(a/b*(gY d (c-a/b*d) b (a%b)).1+(gY d (c-a/b*d) b (a%b)).2,(gY d (c-a/b*d) b (a%b)).1):=by rw[gY,dif_neg u0,dif_neg u0,dif_neg h]
theorem Ni{b d:Nat}(g:0<b)(i:0<d)(hle:a*d<=c*b)(h:¬ (if a%b=0 then a/b else a/b+1)*d<=c) :
  0<a%b/\a%b<b/\a/b*d<c/\c<(a/b+1)*d/\d*(a%b)<=b*(c-a/b*d):=by
 have e:=zwb a b;have hm:=zVa a g;generalize a/b=f at *;generalize a%b=r at *;have j:0<r:=by
  rcases zKb r with k|k
  ·exfalso;rw[zla k] at h;subst k;have:b*(f*d)<=b*c:=by
    calc b*(f*d)=(b*f+0)*d:=by rw[zTb,zkb]
     _=a*d:=by rw[e]
     _<=c*b:=hle
     _=b*c:=zTa ..
   exact h (Nat.le_of_mul_le_mul_left this g)
  ·exact k
 rw[zia u0] at h
 have l:a*d=b*(f*d)+d*r:=s6
 have m:f*d<c:=by
  rcases zua (f*d) c with k|k
  ·exact k
  ·exfalso;have:c*b<=f*d*b:=zJa _ k;have:0<d*r:=Nat.mul_pos i j;grind
 grind [Nat.mul_sub]
structure SimOk(a b c d p q:Nat):Prop where
 p0:0<p
 q0:0<q
 lo:a*q<=p*b
 hi:p*d<=c*q
 pa:p<=a
 pc:p<=c
 qb:q<=b
 qd:q<=d
 g:Nat.gcd p q=1
theorem vP:∀ (k a b c d:Nat),b+d<k->0<a->0<b->0<c->0<d->a*d<=c*b->SimOk a b c d (gY a b c d).1 (gY a b c d).2
 | 0,a,b,c,d,hk,_,_,_,_,_=>u0
 | k+1,a,b,c,d,hk,B,i,hc,j,hle=>by
  by_cases h:(if a%b=0 then a/b else a/b+1)*d<=c
  ·rw[zZ i j h];have e:=zwb a b;have hm:=zVa a i;have u:=zfc a b;generalize hf:a/b=f at *;generalize a%b=r at *;have key:∀ g,g*d<=c->0<g->a<=g*b->g<=a->SimOk a b c d g 1:=λg h1 s A t=>
    ⟨s,H,u0,u0,t,zva (zBc _ j) h1,i,j,Nat.gcd_one_right _⟩
   by_cases hr:r=0
   ·grind
   ·rw[zia hr] at h ⊢;refine key (f+1) h u0 ?_ ?_
    ·grind
    ·have:f<=b*f:=zlb _ i;omega
  ·rw[HN i j h];obtain⟨r0,F,z,w,l⟩:=Ni i j hle h;have e:=zwb a b;have ih:=vP k d (c-a/b*d) b (a%b) (by have:=HO u0 u0 h;omega) j u0 i r0 l
   generalize (gY d (c-a/b*d) b (a%b)).1=p at *;generalize (gY d (c-a/b*d) b (a%b)).2=q at *;generalize a/b=f at *;generalize a%b=r at *;obtain⟨p0,q0,l1,C,m,n,D,E,v⟩:=ih;have y:f*p<=f*d:=z6a _ m;have x:f*p<=f*b:=z6a _ n;have o:f*b=b*f:=zTa ..;refine⟨u0,p0,?_,?_,u0,u0,n,m,?_⟩
   ·
    have x1:a*p=b*f*p+r*p:=by rw[<-e,ztb]
    grind
   ·have x1:(f*p+q)*d=f*d*p+d*q:=by rw[ztb,zTa q d,zkb,zTa p d,zkb]
    have G:p*(c-f*d)=c*p-f*d*p:=by rw[zrd,zTa p c,zTa p (f*d)]
    have K:f*d*p<=c*p:=zJa _ u0
    grind
   ·rw[znc,zgc,zTa,Nat.gcd_add_mul_left_right];exact v
def vw(q:Rat):Int:=q.num/(q.den:Int)
def CA(q:Rat):(0:Int)<q.den:=by have:=q.den_pos;omega
def Us(n:Nat)(h:InR q):C (n+1031) 510 [av q]=some (R (vw q)):=by
 rw[ag4];delta PN Q Z qn;refine O (nl n h) (O aJ (O ac ?_));refine(zia H).trans ?_
 exact J (R q.num) (J (R q.den) (O (mR (n+1023) h.1 h.2 (CA q)) rfl))
def aeC(n:Nat)(h:InR q):C (n+1032) 509 [av q]=some (R (-(vw (-q)))):=by
 have hn:InR (-q):=⟨aD.2 (by rw[Rat.neg_num,zHb];exact aD.1 h.1),h.2⟩
 rw[ag3];unfold PM;exact O (ED n h) (O (Us n hn) (O (Wr (n+1028) (a:=some (vw (-q))) (bn (qU hn.1 _))) rfl))
end
section
variable{a c f q:Nat}{y z:Rat}
structure Prt(x:Rat)(a b:Nat):Prop where
 n:x.num=(a:Int)
 d:x.den=b
def Prt.eq{x:Rat}{b:Nat}(h:Prt x a b):x=Rat.divInt (a:Int) (b:Int):=by rw[<-h.n,<-h.d];exact(z7a x).symm
def Prt.b0{x:Rat}{b:Nat}(h:Prt x a b):0<b:=h.d ▸ x.den_pos
def Prt.g{x:Rat}{b:Nat}(h:Prt x a b):Nat.gcd a b=1:=by have:=x.reduced;rw[h.n,h.d] at this;exact this
def Prt.of{a b:Nat}(d:0<b)(c:Nat.gcd a b=1):∃ x,Prt x a b:=⟨⟨(a:Int),b,u0,c⟩,rfl,rfl⟩
theorem Prt.In{x:Rat}{b:Nat}(h:Prt x a b)(c:a<=2^250)(e:b<=2^250):InR x:=
 eO.inR (a:=250) (k:=250) ⟨by rw[h.n];exact c,by rw[h.d];exact e⟩
theorem Prt.uniq{x:Rat}{b:Nat}(hx:Prt x a b)(c:Prt y a b):x=y:=by rw[hx.eq,c.eq]
theorem Prt.le{x:Rat}{b d:Nat}(hx:Prt x a b)(e:Prt y c d):x<=y↔a*d<=c*b:=by grind [Rat.le_iff,hx.n,hx.d,e.n,e.d]
def Prt.int(f:Nat):Prt (((f:Nat):Int):Rat) f 1:=⟨rfl,rfl⟩
def Sq:(2:Nat)^251<eN:=by
 have h:=aD.1 (bJ (x:=((2^251:Nat):Int)) (k:=251) H (by rw[zha];exact zja _))
 rwa [zha] at h
def afj:2^250+2^250<=2^251:=by rw[z0b];omega
theorem HT{x:Rat}{b f:Nat}(hx:Prt x a b)(i:a<=2^250)(j:b<=2^250)(k:f*b<=a):∃ y,Prt y (a-f*b) b/\V0 (some x) (some (((f:Nat):Int):Rat))=some y:=by
 have b0:=hx.b0;have m:Nat.gcd (a-f*b) b=1:=by
  have h:=hx.g
  simp_all
 obtain⟨y,e⟩:=Prt.of b0 m;refine⟨y,e,?_⟩;have l:=zva (zBc _ b0) k;have o:eO (-(((f:Nat):Int):Rat)) 250 0:=⟨by rw[Rat.neg_num,zHb];show((f:Nat):Int).natAbs<=_;rw[zha];omega,zja _⟩
 have p:eO x 250 250:=⟨by rw[hx.n];exact i,by rw[hx.d];exact j⟩
 show addW (some x) (some (-(((f:Nat):Int):Rat)))=some y;have c:fitA x (-(((f:Nat):Int):Rat)):=by
  have Sq:=Sq;refine⟨?_,?_⟩
  ·rw[Rat.neg_num,Rat.neg_den,zHb,hx.n,hx.d];show a*1+f*b<eN;omega
  ·rw[Rat.neg_den,hx.d];show b*1<eN;omega
 rw[iZ c,<-Rat.sub_eq_add_neg];congr 1;rw[hx.eq,e.eq,show(((f:Nat):Int):Rat)=Rat.divInt (f:Int) 1 from(Prt.int f).eq,Rat.divInt_sub_divInt _ _ u0 H]
 grind
def A4{b:Nat}(h:Prt y a b)(i:0<a)(f:a<=2^250)(j:b<=2^250):∃ z,Prt z b a/\wF (some ((1:Int):Rat)) (some y)=some z:=by
 obtain⟨z,c⟩:=Prt.of (a:=b) (b:=a) i (by rw[znc];exact h.g)
 refine⟨z,c,?_⟩;show mulW (some ((1:Int):Rat)) (nL (some (y.den:Int)) (some y.num))=some z;have e:nL (some (y.den:Int)) (some y.num)=some z:=by
  rw[h.n,h.d];show(if(a:Int)=0 then none else some (Rat.divInt (b:Int) (a:Int)))=some z
  rw[zia u0,c.eq]
 rw[e,nP (eO.fitM (a:=0) (k:=0) (b:=250) (m:=250) (mf H) ⟨by rw[c.n];exact j,by rw[c.d];exact f⟩ H H)]
 simp_all
def Qo{p:Nat}(a:Prt z q p)(h:f*p+q<=2^250)(hp:p<=2^250):∃ w,Prt w (f*p+q) p/\addW (some (((f:Nat):Int):Rat)) (some z)=some w:=by
 have p0:=a.b0;have c:Nat.gcd (f*p+q) p=1:=by rw[zgc,Nat.gcd_add_mul_right_left];exact a.g
 obtain⟨w,hw⟩:=Prt.of p0 c;refine⟨w,hw,?_⟩;have b:fitA (((f:Nat):Int):Rat) z:=by
  have Sq:=Sq;refine⟨?_,?_⟩
  ·rw[a.n,a.d];show f*p+q*1<eN;omega
  ·rw[a.d];show 1*p<eN;omega
 rw[iZ b];congr 1;rw[hw.eq,a.eq,show(((f:Nat):Int):Rat)=Rat.divInt (f:Int) 1 from(Prt.int f).eq,zvd _ _ H u0]
 simp_all
def UY{x:Rat}{b:Nat}(hx:Prt x a b):vw x=((a/b:Nat):Int):=by simp_all [vw,hx.n,hx.d]
theorem Uy{x:Rat}{b:Nat}(hx:Prt x a b):-(vw (-x))=((if a%b=0 then a/b else a/b+1:Nat):Int):=by
 have b0:=hx.b0;unfold vw;rw[Rat.neg_num,Rat.neg_den,hx.n,hx.d];have e:=zwb a b;have hm:=zVa a b0;generalize a/b=f at *;generalize a%b=r at *;by_cases hr:r=0
 ·rw[zla hr];subst hr;have:-(a:Int)=(b:Int)*(-(f:Int)):=s6
  rw[this,zZa _ u0,Int.neg_neg]
 ·rw[zia hr];have:-(a:Int)=((b-r:Nat):Int)+(b:Int)*(-((f:Int)+1)):=by
   grind
  rw[this,Int.add_mul_ediv_left _ _ u0]
  have h0:((b-r:Nat):Int)/(b:Int)=0:=Int.ediv_eq_zero_of_lt u0 u0
  omega
def MN{x:Rat}{b:Nat}(hx:Prt x a b)(c:0<a):TF (some x)=1:=by show sg x.num=1;rw[hx.n];exact gQ u0
def D5(n:Nat){x:Rat}{b d:Nat}(hx:Prt x a b)(m:Prt y c d)(I:0<a)(hc:0<c)(i:a<=2^250)(j:b<=2^250)(k:c<=2^250)(l:d<=2^250)(hle:a*d<=c*b){rest:Option D}{Y:D}(call:Ca)
  (e:call=C (n+1040))
  (K:((call 509 [av x]).bind λq=>(call 138 [q]).bind λg=>(call 73 [g,av y]).bind λr=>(akk .leq r (.int .i64 0)).bind λw=>(D.truth w).bind λh=>if h=true then some g else
   ((call 510 [av x]).bind λs=>(call 138 [s]).bind λf=>(call 74 [.int .i64 1]).bind λt=>(call 74 [.int .i64 1]).bind λu=>(call 336 [av y,f]).bind λv=>(call 352 [u,v]).bind λA=>(call 74 [.int .i64 1]).bind λB=>(call 336 [av x,f]).bind λN=>(call 352 [B,N]).bind λE=>(call 490 [A,E]).bind λF=>(call 352 [t,F]).bind λG=>(call 173 [f,G]).bind λM=>some M))=some Y) :
  C (n+1041) 490 [av x,av y]=some Y:=by
 have o:=hx.In i j;have p:=m.In k l;subst e;rw[YB];delta Kj qC qN J0 J1 qA qO qc qh Z qo qz;refine O (nl (n+10) o) (O aJ (O ac (O (z:=false) ((zia H).trans (O (nl (n+10) p) (O aJ ac))) (O ac (O (z:=false) ?_ (O ac ?_))))))
 ·refine(zia H).trans (O (yh (n+9) (a:=some x) (b:=some y) (aH o) (aH p)) (O cn ?_))
  rw[ac,tx];congr 1;exact zfa (Rat.not_lt.2 ((hx.le m).2 hle))
 refine(zia H).trans ?_
 refine O (Ie (n+9) (a:=some x) (aH o)) ?_;rw[MN hx I];refine J (.bool false) (O ac (J false (O ac ((zia H).trans ?_))))
 refine O (Ie (n+9) (a:=some y) (aH p)) ?_;rw[MN m hc];exact J (.bool false) (O ac ((zia H).trans K))
theorem SV(n:Nat){x:Rat}{b d:Nat}(hx:Prt x a b)(a3:Prt y c d)(N:0<a)(hc:0<c)(l:a<=2^250)(j:b<=2^250)(o:c<=2^250)(i:d<=2^250)(hle:a*d<=c*b)
  (rec:∀ (x' y' w:Rat),Prt x' d (c-a/b*d)->Prt y' b (a%b)->Prt w (gY d (c-a/b*d) b (a%b)).1 (gY d (c-a/b*d) b (a%b)).2->0<a%b->a/b*d<c->d*(a%b)<=b*(c-a/b*d)->c-a/b*d<d->C (n+1040) 490 [av x',av y']=some (av w)) :
  ∃ w,Prt w (gY a b c d).1 (gY a b c d).2/\C (n+1041) 490 [av x,av y]=some (av w):=by
 have b0:=hx.b0;have d0:=a3.b0;have a4:=hx.In l j;have S:=a3.In o i;have I:∀ f:Nat,f<=a+1->In ((f:Nat):Int):=λf hf=>bJ (k:=251) H (by rw[zha];have:=afj;have:1<=2^250:=Nat.one_le_two_pow;omega)
 have ad:=zfc a b;have ok:=vP (b+d+1) a b c d u0 N b0 hc d0 hle
 have s:∀ g:Nat,(oT (some (((g:Nat):Int):Rat)) (some y)<=0)↔g*d<=c:=λg=>by have h1:=Tl (((g:Nat):Int):Rat) y;have h2:=(Prt.int g).le a3;all_goals grind
 have D:=Uy hx;obtain⟨g,J⟩:∃ g,g=(if a%b=0 then a/b else a/b+1):=⟨_,rfl⟩
 rw[<-J] at D;have v:g<=a+1:=s6
 have t:C (n+1040) 509 [av x]=some (R ((g:Nat):Int)):=by rw[<-D];exact aeC (n+8) a4
 by_cases h:g*d<=c
 ·have K:=zZ (a:=a) b0 d0 (by rw[<-J];exact h)
  rw[<-J] at K;rw[K];refine⟨((g:Nat):Int),Prt.int g,D5 n hx a3 N hc l j o i hle (rest:=none) _ rfl ?_⟩;refine O t (O (QD (n+9) (I g v)) (O (yh (n+9) (a:=some (((g:Nat):Int):Rat)) (b:=some y) (aH (Prt.In (Prt.int g) ?_ H)) (aH S)) (O ja (O ac (au ((s g).2 h) rfl)))))
  grind
 ·have hn:¬ (if a%b=0 then a/b else a/b+1)*d<=c:=by rw[<-J];exact h
  have K:=HN (a:=a) b0 d0 hn;obtain⟨r0,rb,fc,cf,E⟩:=Ni b0 d0 hle hn;have e:=zwb a b;have cd:c-a/b*d<d:=s6
  have m:=vP (d+a%b+(c-a/b*d)+1) d (c-a/b*d) b (a%b) u0 d0 u0 b0 r0 E
  rw[K] at ok ⊢;generalize hsp:(gY d (c-a/b*d) b (a%b)).1=p at *;generalize hsq:(gY d (c-a/b*d) b (a%b)).2=q at *;have a0:=z9b a b;have F:a-a/b*b=a%b:=by rw[zTa];omega
  obtain⟨y1,a2,s1⟩:=HT a3 o i (f:=a/b) u0
  obtain⟨x1,B,s2⟩:=HT hx l j (f:=a/b) a0;rw[F] at B;obtain⟨L,hL,i1⟩:=A4 a2 u0 u0 i
  obtain⟨M,hM,i2⟩:=A4 B r0 u0 j
  have Q:=m.g;obtain⟨w0,A⟩:=Prt.of m.q0 Q;have r:=zva m.pa i;have z:q<=2^250:=zva m.qb u0
  obtain⟨V,W,i3⟩:=A4 A m.p0 r z;have G:=zva ok.pa l;obtain⟨w,hw,a1⟩:=Qo W G r;refine⟨w,hw,D5 n hx a3 N hc l j o i hle (rest:=none) _ rfl ?_⟩;have gI:OW (some (((g:Nat):Int):Rat)):=by refine aH ⟨I g v,?_⟩;show In ((1:Nat):Int);grind
  refine O t (O (QD (n+9) (I g v)) (O (yh (n+9) (a:=some (((g:Nat):Int):Rat)) (b:=some y) gI (aH S)) (O ja (O ac (aB (λk=>h ((s g).1 k)) ?_)))));have U:OW (some ((1:Int):Rat)):=aH (mf (a:=0) H).inR
  have u:OW (some (((a/b:Nat):Int):Rat)):=aH (Prt.In (Prt.int _) u0 H)
  have X:=KU (n+8) (a:=some y) (b:=some (((a/b:Nat):Int):Rat)) (aH S) u;have Y:=KU (n+8) (a:=some x) (b:=some (((a/b:Nat):Int):Rat)) (aH a4) u;rw[s1] at X;rw[s2] at Y;have T:=a2.In u0 i
  have IC:=B.In u0 j
  have Z:=yI (n+8) (a:=some ((1:Int):Rat)) (b:=some y1) U (aH T);have k4:=yI (n+8) (a:=some ((1:Int):Rat)) (b:=some x1) U (aH IC);rw[i1] at Z;rw[i2] at k4;have k5:=yI (n+8) (a:=some ((1:Int):Rat)) (b:=some w0) U (aH (A.In r z));rw[i3] at k5;have k6:=yH (n+9) (a:=some (((a/b:Nat):Int):Rat)) (b:=some V) u (aH (W.In z r));rw[a1] at k6;have P:C (n+1040) 510 [av x]=some (R ((a/b:Nat):Int)):=by rw[<-UY hx];exact Us (n+9) a4
  refine O P (O (QD (n+9) (I _ u0)) (O (Es (n+8) (x:=1) (cj 1)) (O (Es (n+8) (x:=1) (cj 1)) (O X (O Z (O (Es (n+8) (x:=1) (cj 1)) (O Y (O k4 ?_))))))))
  exact O (rec L M w0 hL hM A r0 fc E cd) (O k5 (O k6 rfl))
theorem SU:∀ (m n:Nat) {x y:Rat} {a b c d:Nat},Prt x a b->Prt y c d->0<a->0<c->a<=2^250->b<=2^250->c<=2^250->d<=2^250->a*d<=c*b->b<2^m ->
  ∃ w,Prt w (gY a b c d).1 (gY a b c d).2/\C (n+2*m+1041) 490 [av x,av y]=some (av w)
 | 0,n,x,y,a,b,c,d,hx,t,_,_,_,_,_,_,_,hm=>zgb hx.b0 u0
 | m+1,n,x,y,a,b,c,d,hx,t,A,hc,h,f,i,e,hle,hm=>by
  rw[show n+2*(m+1)+1041=(n+2*m+2)+1041 by omega]
  refine SV _ hx t A hc h f i e hle λx1 B w1 r u p r0 D l K=>?_;have b0:=hx.b0;have d0:=t.b0;have E:=zVa a b0;have step:∃ w,Prt w (gY d (c-a/b*d) b (a%b)).1 (gY d (c-a/b*d) b (a%b)).2/\C ((n+2*m+1)+1041) 490 [av x1,av B]=some (av w):=by
   refine SV _ r u d0 b0 e u0 f u0 l λG H F s v q s0 gc g z=>?_
   have k:1<=d/(c-a/b*d):=(Nat.one_le_div_iff u0).2 u0
   have o:b-d/(c-a/b*d)*(a%b)<2^m:=by have h1:a%b<=d/(c-a/b*d)*(a%b):=zlb _ k;omega
   obtain⟨w,hw,j⟩:=SU m n s v r0 u0 u0 u0 u0 (zva (Nat.mod_le _ _) e) g o
   grind [q.uniq]
  grind [p.uniq]
end
section
variable{y:Rat}
def ul(x y:Rat):Rat:=Rat.divInt ((gY x.num.toNat x.den y.num.toNat y.den).1:Nat) ((gY x.num.toNat x.den y.num.toNat y.den).2:Nat)
def FR(x y:Rat):Option Rat:=if y<x then none else if x<=0/\0<=y then some 0 else if y<0 then some (-(ul (-y) (-x))) else some (ul x y)
theorem MB{x:Rat}:x.num<=0↔x<=0:=by have h1:0<=(-x).num↔0<=-x:=Rat.num_nonneg;grind [Rat.neg_num]
theorem Tw{x:Rat}(h:0<x):0<x.num:=by
 rcases(show x.num<=0\/0<x.num by omega) with k|k
 ·have:=MB.1 k;grind
 ·exact k
def Prt.self{x:Rat}(h:0<x):Prt x x.num.toNat x.den:=by have:0<x.num:=Tw h;exact⟨u0,rfl⟩
def Prt.a0{x:Rat}(h:0<x):0<x.num.toNat:=by have:0<x.num:=Tw h;omega
theorem Nj{x:Rat}(hx:0<x)(hle:x<=y):SimOk x.num.toNat x.den y.num.toNat y.den (gY x.num.toNat x.den y.num.toNat y.den).1 (gY x.num.toNat x.den y.num.toNat y.den).2:=by
 have a:0<y:=s6
 exact vP _ _ _ _ _ (zXc _) (Prt.a0 hx) x.den_pos (Prt.a0 a) y.den_pos (((Prt.self hx).le (Prt.self a)).1 hle)
def HP{x:Rat}(hx:0<x)(hle:x<=y):Prt (ul x y) (gY x.num.toNat x.den y.num.toNat y.den).1 (gY x.num.toNat x.den y.num.toNat y.den).2:=by
 have ok:=Nj hx hle;obtain⟨w,hw⟩:=Prt.of ok.q0 ok.g;have:ul x y=w:=by rw[hw.eq];rfl
 simp_all
theorem BH{x y:Rat}(hx:0<x)(hle:x<=y):x<=ul x y/\ul x y<=y/\0<ul x y/\(ul x y).den<=x.den/\(ul x y).den<=y.den/\(ul x y).num.natAbs<=x.num.natAbs/\(ul x y).num.natAbs<=y.num.natAbs:=by
 have a:0<y:=s6
 have ok:=Nj hx hle;have p:=HP hx hle;have h1:=((Prt.self hx).le p).2 ok.lo;refine⟨h1,(p.le (Prt.self a)).2 ok.hi,s6,by rw[p.d];exact ok.qb,by rw[p.d];exact ok.qd,?_,?_⟩
 ·rw[p.n,zha];have:=ok.pa;omega
 ·rw[p.n,zha];have:=ok.pc;omega
theorem eO.neg{x:Rat}{a k:Nat}(h:eO x a k):eO (-x) a k:=⟨by rw[Rat.neg_num,zHb];exact h.1,h.2⟩
theorem D4(n:Nat){x y:Rat}(hx:0<x)(hle:x<=y)(a:eO x 250 250)(b:eO y 250 250):C (n+1543) 490 [av x,av y]=some (av (ul x y)):=by
 have c:0<y:=s6
 have d:=Prt.self hx;have e:=Prt.self c;obtain⟨w,hw,hc⟩:=SU 251 n d e (Prt.a0 hx) (Prt.a0 c) (by have:=a.1;omega) a.2 (by have:=b.1;omega) b.2 ((d.le e).1 hle) (zLa a.2 (Nat.pow_lt_pow_right H H))
 rw[(HP hx hle).uniq hw];exact hc
theorem VV(x:Rat):decide (TF (some x)<=0)=decide (x<=0):=by rw[decide_eq_decide];show sg x.num<=0↔_;grind [MB,sg]
theorem VU(x:Rat):decide (TF (some x) ≥ 0)=decide (0<=x):=by rw[decide_eq_decide];show sg x.num ≥ 0↔_;rw[<-Rat.num_nonneg];grind [sg]
theorem aez(n:Nat){x:Rat}(g:eO x 250 250)(c:eO y 250 250):C (n+1544) 490 [av x,av y]=some (bH (FR x y)):=by
 have f:=g.inR H H
 have d:=c.inR H H
 by_cases hpos:0<x/\x<=y
 ·have e:FR x y=some (ul x y):=by
   unfold FR;rw[zia (Rat.not_lt.2 hpos.2),zia s6,zia s6]
  rw[e];exact D4 (n+1) hpos.1 hpos.2 g c
 rw[YB];delta Kj qC qN J0 J1 qA qO qc qh Z qo qz;refine O (nl (n+513) f) (O aJ (O ac (O (z:=false) ((zia H).trans (O (nl (n+513) d) (O aJ ac))) (O ac (O (z:=decide (y<x)) ?_ (O ac ?_))))))
 ·refine(zia H).trans (O (yh (n+512) (a:=some x) (b:=some y) (aH f) (aH d)) (O cn ?_))
  rw[ac,tx]
 unfold FR;by_cases h1:y<x
 ·rw[zla h1];exact au h1 (O (wg (n+1539)) rfl)
 rw[zia h1];refine aB h1 ?_;refine O (Ie (n+512) (a:=some x) (aH f)) (O ja (O ac ?_));rw[VV];refine O (z:=decide (x<=0/\0<=y)) ?_ (O ac ?_)
 ·by_cases h2:x<=0
  ·rw[zna h2];refine(zla rfl).trans (O (Ie (n+512) (a:=some y) (aH d)) (O fS ?_));rw[ac,VU];congr 1;rw[decide_eq_decide];simp[h2]
  ·rw[zfa h2,zia H];congr 1;rw[zOc];simp[h2]
 by_cases h3:x<=0/\0<=y
 ·rw[zla h3];exact au h3 (O (Es (n+511) (x:=0) (cj 0)) rfl)
 rw[zia h3];refine aB h3 ?_;refine O (Ie (n+512) (a:=some y) (aH d)) (O ah (O ac ?_));rw[Nd];have h:y<0:=s6
 rw[zla h];refine au h (O (ED (n+512) d) (O (ED (n+512) f) (O (D4 n (x:=-y) (y:=-x) s6 s6 (eO.neg c) (eO.neg g)) ?_)))
 have i:=BH (x:=-y) (y:=-x) s6 s6
 have is:=eO.inR (a:=250) (k:=250) ⟨zva i.2.2.2.2.2.1 (eO.neg c).1,zva i.2.2.2.1 (eO.neg c).2⟩;exact O (ED (n+512) is) rfl
theorem Se{x w:Rat}(h:FR x y=some w):x<=w/\w<=y/\w.den<=x.den/\w.den<=y.den/\w.num.natAbs<=max x.num.natAbs y.num.natAbs:=by
 unfold FR at h;by_cases h1:y<x
 ·simp_all
 rw[zia h1] at h;by_cases h2:x<=0/\0<=y
 ·rw[zla h2] at h;cases h;exact⟨h2.1,h2.2,x.den_pos,y.den_pos,zoa _⟩
 rw[zia h2] at h;by_cases h3:y<0
 ·rw[zla h3] at h;cases h;obtain⟨a,b,c,d,e,f,g⟩:=BH (x:=-y) (y:=-x) s6 s6
  grind [Rat.neg_num,Int.natAbs_neg,Rat.neg_den]
 ·rw[zia h3] at h;cases h;obtain⟨a,b,c,d,e,f,g⟩:=BH (x:=x) (y:=y) s6 s6
  grind
end
section
variable{h:Pth}{f:Nat->Int}{a c:Nat}{N:V}
def Tm.t{f:Rat}(h:Tm f):T20 f:=⟨h.n,h.d⟩
theorem ju(a b:Int):((a+b:Int):Rat)=(a:Rat)+(b:Rat):=Rat.intCast_add a b
theorem fe(a b:Int):((a*b:Int):Rat)=(a:Rat)*(b:Rat):=Rat.intCast_mul a b
def Vi(a b:Int):((a-b:Int):Rat)=(a:Rat)-(b:Rat):=Rat.intCast_sub a b
def VX(p q:Nat->Int):kD p q*kD p q=1:=by unfold kD;split<;>rfl
def R9(p q:Nat->Int):0<=kD p q*A3 p q:=by unfold kD;split<;>omega
theorem Ms(a b c d:Int):bA (bP a b) (bP c d) 0=a*c/\bA (bP a b) (bP c d) 1=a*d+b*c/\bA (bP a b) (bP c d) 2=b*d/\bA (bP a b) (bP c d) 3=0:=by
 obtain⟨h0,h1,e,f⟩:=X2 (bP a b) (bP c d)
 simp_all [bP]
theorem VP(h:Pth):nW h.p 0=fQ h.q0/\nW h.p 1=2*(kD h.q0 h.q1*A3 h.q0 h.q1-fQ h.q0)/\nW h.p 2=fQ h.q1-2*(kD h.q0 h.q1*A3 h.q0 h.q1)+fQ h.q0/\nW h.p 3=0:=by have a:=VX h.q0 h.q1;unfold nW Pth.p kE fQ A3;grind [Ms]
theorem RW(h:Pth)(t:Rat):lQ h t=(1-t)*(1-t)*(fQ h.q0:Rat)+2*t*(1-t)*((kD h.q0 h.q1*A3 h.q0 h.q1:Int):Rat)+t*t*(fQ h.q1:Rat):=by obtain⟨a,b,c,d⟩:=VP h;unfold lQ mS;rw[a,b,c,d];grind
theorem vO(hh:h.Ok){t:Rat}(h0:0<=t)(h1:t<=1):0<lQ h t:=by
 rw[RW];have A:(0:Rat)<(fQ h.q0:Rat):=by have:=(sT hh.p0.hq hh.p0.h0).1;exact_mod_cast this
 have B:(0:Rat)<(fQ h.q1:Rat):=by have:=(sT hh.p1.hq hh.p1.h0).1;exact_mod_cast this
 have C:(0:Rat)<=((kD h.q0 h.q1*A3 h.q0 h.q1:Int):Rat):=by have:=R9 h.q0 h.q1;exact_mod_cast this
 generalize (fQ h.q0:Rat)=a at *;generalize (fQ h.q1:Rat)=b at *;generalize ((kD h.q0 h.q1*A3 h.q0 h.q1:Int):Rat)=c at *;have d:0<=1-t:=s6
 have m1:0<=(1-t)*(1-t)*a:=Rat.mul_nonneg (Rat.mul_nonneg d d) s6
 have G:0<=2*t*(1-t)*c:=Rat.mul_nonneg (Rat.mul_nonneg (Rat.mul_nonneg H h0) d) C
 have m3:0<=t*t*b:=Rat.mul_nonneg (Rat.mul_nonneg h0 h0) s6
 by_cases ht:t=0
 ·subst ht;grind
 ·have e:0<t:=s6
  have m4:=Rat.mul_pos (Rat.mul_pos e e) B;grind
def Lv{x y:Rat}{k b m:Nat}(hx:eO x a k)(c:eO y b m)(h0:y≠0)(h1:a+m<=500)(g:k+b<=500):wF (some x) (some y)=some (x/y)/\eO (x/y) (a+m) (k+b):=by
 have hn:y.num≠0:=λh=>h0 (Rat.num_eq_zero.1 h);have e:nL (some (y.den:Int)) (some y.num)=some (Rat.divInt y.den y.num):=by
  show(if y.num=0 then none else some (Rat.divInt (y.den:Int) y.num))=_
  simp_all
 have fz:=eG (c8 c.2) c.1 hn;have f:Rat.divInt y.den y.num=y⁻¹:=by rw[Rat.inv_def]
 have ex:x*Rat.divInt y.den y.num=x/y:=by rw[f,Rat.div_def]
 refine⟨?_,?_⟩
 ·show mulW (some x) (nL (some (y.den:Int)) (some y.num))=_;rw[e,nP (eO.fitM hx fz u0 u0),ex]
 ·have d:x*Rat.divInt y.den y.num=Rat.divInt (x.num*y.den) ((x.den:Int)*y.num):=by
   rw[<-zZb,z7a]
  rw[<-ex,d];exact eG (bK hx.1 (c8 c.2) (zja _)) (bK (c8 hx.2) c.1 (zja _)) (zLc (bV x) hn)
def QV(h:Pth)(N v:V):Nat->Int:=λk=>fH h.p h.x0 h.x1 v 0 k*N.x+fH h.p h.x0 h.x1 v 1 k*N.y+fH h.p h.x0 h.x1 v 2 k*N.z
def UK(hh:h.Ok){v:V}(hN:∀ i,i<3->(aX N i).natAbs<=2^61)(d:bd 4096 v):S (QV h N v) 3 97:=by
 have a:=akK (b:=61) (gV hh.hp hh.b0 hh.b1 d (i:=0) H) (hN 0 H)
 have b:=akK (b:=61) (gV hh.hp hh.b0 hh.b1 d (i:=1) H) (hN 1 H)
 have c:=akK (b:=61) (gV hh.hp hh.b0 hh.b1 d (i:=2) H) (hN 2 H)
 exact S.add (S.add a b) c
def Yf(h:Pth)(N v:V)(t:Rat):Rat:=mS (QV h N v) t/lQ h t
theorem UL(h:Pth)(N v:V)(t:Rat):mS (QV h N v) t=(N.x:Rat)*lh h v t 0+(N.y:Rat)*lh h v t 1+(N.z:Rat)*lh h v t 2:=by unfold lh mS QV;grind
theorem Vh{e b:Nat}(a:S f e b){N D:Int}(hN:N.natAbs<=2^20)(c:D.natAbs<=2^20)(m:Nat):∀ j,(uH f N D m (j+1)).natAbs<=(j+1)*2^(b+20*j)
 | 0=>by
  show(0*N+f (m-1-0)*D^0).natAbs<=_;rw[zKc,zuc,Int.pow_zero,Int.mul_one];have:=a.2 (m-1-0)
  simp_all
 | j+1=>by
  have h1:(uH f N D m (j+1+1)).natAbs<=(uH f N D m (j+1)*N).natAbs+(f (m-1-(j+1))*D^(j+1)).natAbs:=zPb ..;have d:(uH f N D m (j+1)*N).natAbs<=(j+1)*2^(b+20*(j+1)):=by
   rw[zwa,show b+20*(j+1)=b+20*j+20 by omega,z5a _ _ 20,<-zkb]
   exact zFa (Vh a hN c m j) hN
  have g:(f (m-1-(j+1))*D^(j+1)).natAbs<=2^(b+20*(j+1)):=GQ a c _ _;grind
theorem XG{e b:Nat}(c:S f e b)(he:e<=3){t:Rat}(ht:T20 t):∃ z:Int,z.natAbs<=2^(b+62)/\mS f t=Rat.divInt z ((t.den:Int)^3):=by
 refine⟨uH f t.num t.den 4 4,?_,(AO (m:=4) (zja _) (λk hk=>c.1 k u0) t).symm⟩
 have h1:=Vh c ht.a (c8 ht.d) 4 3;grind
theorem XF{b:Nat}(c:S f 2 b){t:Rat}(ht:T20 t):∃ z:Int,z.natAbs<=2^(b+42)/\mS f t=Rat.divInt z ((t.den:Int)^2):=by
 refine⟨uH f t.num t.den 3 3,?_,(AO (m:=3) H (λk hk=>c.1 k u0) t).symm⟩
 have h1:=Vh c ht.a (c8 ht.d) 3 2;grind
def eO.mono{x:Rat}{k a':Nat}(h:eO x a k)(h1:a<=a')(b:k<=c):eO x a' c:=
 ⟨zva h.1 (zqa H h1),zva h.2 (zqa H b)⟩
theorem RN{A B D:Int}{b:Nat}(f:A.natAbs<=2^a)(g:B.natAbs<=2^b)(i:D.natAbs<=2^20)(c:B≠0)(d:D≠0):eO (Rat.divInt A (D^3)/Rat.divInt B (D^2)) a (b+20):=by
 have k:(D:Rat)≠0:=λh=>d (Rat.intCast_inj.1 (by rw[h];rfl))
 have j:(B:Rat)≠0:=λh=>c (Rat.intCast_inj.1 (by rw[h];rfl))
 have e:Rat.divInt A (D^3)/Rat.divInt B (D^2)=Rat.divInt A (D*B):=by simp only[Rat.divInt_eq_div,fe,Rat.intCast_pow];grind
 rw[e];exact eG f (by rw[zwa,zgc,z5a];exact zFa i g) (zLc d c)
def sH(hh:h.Ok){b:Nat}(l:S f 3 b){t:Rat}(ht:Tm t):eO (mS f t/lQ h t) (b+62) 80:=by
 have m:=vO hh ht.a ht.b;obtain⟨A,j,g⟩:=XG l H ht.t
 obtain⟨B,k,i⟩:=XF (nX hh.hp) ht.t;have c:lQ h t=Rat.divInt B ((t.den:Int)^2):=i;have e:B≠0:=by
  intro h0
  simp_all
 rw[g,c];exact RN j k (c8 ht.t.d) e (bV t)
theorem T8(hh:h.Ok){v:V}(d:bd 4096 v){t:Rat}(ht:Tm t){i:Nat}(hi:i<3):KC h v t i=some (lh h v t i/lQ h t):=by have c:=vO hh ht.a ht.b;have hx:=gV hh.hp hh.b0 hh.b1 d hi;exact(Lv (QZ hx H H ht.t) (QZ (nX hh.hp) H H ht.t) (by unfold lQ at c;grind) H H).1
def adL(hh:h.Ok){v:V}(a:bd 4096 v){t:Rat}(ht:Tm t){i:Nat}(hi:i<3):eO (lh h v t i/lQ h t) 96 80:=sH hh (gV hh.hp hh.b0 hh.b1 a hi) ht
def Yg(hh:h.Ok){v:V}(hN:∀ i,i<3->(aX N i).natAbs<=2^61)(a:bd 4096 v){t:Rat}(ht:Tm t):eO (Yf h N v t) 159 80:=sH hh (UK hh hN a) ht
theorem M8(hh:h.Ok){v:V}(hN:∀ i,i<3->(aX N i).natAbs<=2^61)(c:bd 4096 v){t:Rat}(ht:Tm t):TE h N v t=some (Yf h N v t):=by
 have f:=vO hh ht.a ht.b;have s0:lQ h t≠0:=s6
 have d:∀ i,i<3->mulW (some ((aX N i:Int):Rat)) (KC h v t i)=some ((aX N i:Rat)*(lh h v t i/lQ h t)):=λi hi=>by rw[T8 hh c ht hi];exact nP (eO.fitM (a:=61) (k:=0) (b:=96) (m:=80) (mf (hN i hi)) (adL hh c ht hi) H H)
 have fb:∀ i,i<3->eO ((aX N i:Rat)*(lh h v t i/lQ h t)) 157 80:=λi hi=>by
  have hx:=gV hh.hp hh.b0 hh.b1 c hi;have hp:=akK (b:=61) hx (hN i hi);have e:mS (ef (fH h.p h.x0 h.x1 v i) (aX N i)) t=(aX N i:Rat)*lh h v t i:=by unfold lh mS ef;grind
  have:=sH hh hp ht;grind
 have f2:eO ((aX N 0:Rat)*(lh h v t 0/lQ h t)+(aX N 1:Rat)*(lh h v t 1/lQ h t)) 158 80:=by
  have hp:=S.add (akK (b:=61) (gV hh.hp hh.b0 hh.b1 c (i:=0) H) (hN 0 H)) (akK (b:=61) (gV hh.hp hh.b0 hh.b1 c (i:=1) H) (hN 1 H))
  have e:mS (dF (ef (fH h.p h.x0 h.x1 v 0) (aX N 0)) (ef (fH h.p h.x0 h.x1 v 1) (aX N 1))) t=(aX N 0:Rat)*lh h v t 0+(aX N 1:Rat)*lh h v t 1:=by unfold lh mS ef dF;grind
  have:=sH hh hp ht;grind
 show addW (addW (mulW (some ((aX N 0:Int):Rat)) (KC h v t 0)) (mulW (some ((aX N 1:Int):Rat)) (KC h v t 1))) (mulW (some ((aX N 2:Int):Rat)) (KC h v t 2))=_;rw[d 0 H,d 1 H,d 2 H]
 rw[iZ (eO.fitA (fb 0 H) (fb 1 H) H H H),iZ (eO.fitA f2 (fb 2 H) H H H)]
 congr 1;unfold Yf;rw[UL];show _=((aX N 0:Rat)*lh h v t 0+(aX N 1:Rat)*lh h v t 1+(aX N 2:Rat)*lh h v t 2)/lQ h t;grind
end
def uk(q:Rat):Int:=if q.num%(q.den:Int) ≥ (q.den:Int)-q.num%(q.den:Int) then vw q+1 else vw q
def aeH(n:Nat){q:Rat}(h:eO q 100 100):C (n+1032) 537 [av q]=some (R (uk q)):=by
 have a:InR q:=h.inR H H
 have d0:=CA q;have m0:=Int.emod_nonneg q.num (show(q.den:Int)≠0 by omega)
 have m1:=Int.emod_lt_of_pos q.num d0;have b:In (q.num%(q.den:Int)):=Cb a.2 u0
 have c:In ((q.den:Int)-q.num%(q.den:Int)):=Cb a.2 u0
 have d:(vw q).natAbs<=2^100:=zva (Int.natAbs_ediv_le_natAbs _ _) h.1;rw[ahf];delta PZ Q J0 qc Z qt;refine O (Us n a) (J (.bool false) (O ac ((zia H).trans ?_)))
 refine J (R q.num) (J (R q.den) (O (yG (n+1024) a.1 a.2 d0) (J (R q.den) (O (QH (n+1026) a.2 b c) (O (NO (n+1027) b c) (O fS (O ac ?_)))))));have e:decide (bk (q.num%(q.den:Int)) ((q.den:Int)-q.num%(q.den:Int)) ≥ 0)=decide (q.num%(q.den:Int) ≥ (q.den:Int)-q.num%(q.den:Int)):=by rw[decide_eq_decide];unfold bk;split<;>(try split)<;>omega
 rw[e];unfold uk;by_cases hc:q.num%(q.den:Int) ≥ (q.den:Int)-q.num%(q.den:Int)
 ·rw[zla hc];refine au hc (O (KS (n+1028)) (O (rH (n+1027) (bJ (k:=100) H d) (bB (cj 1)) (bJ (k:=101) H ?_)) rfl))
  omega
 ·grind
def XI(q:Rat):(vw q:Rat)<=q:=by
 have d0:=CA q;have e:=po q;have h:vw q*(q.den:Int)<=q.num:=Int.ediv_mul_le _ u0
 have a:((vw q*(q.den:Int):Int):Rat)<=(q.num:Rat):=by exact_mod_cast h
 rw[fe,e] at a;exact Rat.le_of_mul_le_mul_right a (by exact_mod_cast d0)
def XZ(q:Rat):q<(vw q:Rat)+1:=by
 have d0:=CA q;have e:=po q;have h:q.num<(vw q+1)*(q.den:Int):=Int.lt_ediv_add_one_mul_self _ d0;have a:(q.num:Rat)<(((vw q+1)*(q.den:Int):Int):Rat):=by exact_mod_cast h
 rw[fe,ju,e] at a;exact Rat.lt_of_mul_lt_mul_right a (Rat.le_of_lt (by exact_mod_cast d0))
def M6{q:Rat}{a b:Int}(h1:(a:Rat)<=q)(c:q<=(b:Rat)):a<=uk q/\uk q<=b:=by
 have f1:=XI q;have f2:=XZ q;have a1:a<=vw q:=by
  have:(a:Rat)<((vw q+1:Int):Rat):=by rw[ju];grind
  have:a<vw q+1:=by exact_mod_cast this
  omega
 have b1:vw q<=b:=by
  have:(vw q:Rat)<=(b:Rat):=s6
  exact_mod_cast this
 unfold uk;split
 ·rename_i hc;have d0:=CA q;have ne:vw q<b:=by
   rcases(show vw q<b\/vw q=b by omega) with k|k
   ·exact k
   ·exfalso;have:q=(b:Rat):=s6
    simp_all
  omega
 ·omega
def u9(x d:Int):Int:=if x%d+x%d>d then x/d+1 else x/d
def VB(x d:Int):Int:=if x<0 then -(u9 (-x) d) else u9 x d
def Fs{x d k:Int}(hx:0<=x)(a:0<d)(h:x<=k*d):0<=u9 x d/\u9 x d<=k:=by
 have m0:=Int.emod_nonneg x (show d≠0 by omega)
 have m1:=Int.emod_lt_of_pos x a;have e:=Int.mul_ediv_add_emod x d;have q0:0<=x/d:=Int.ediv_nonneg hx u0
 have q1:x/d<=k:=Int.ediv_le_of_le_mul a h;unfold u9;all_goals grind
def X7{x d k:Int}(a:0<d)(h:-(k*d)<=x/\x<=k*d):-k<=VB x d/\VB x d<=k:=by
 unfold VB;split
 ·have:=Fs (x:=-x) (k:=k) u0 a u0;omega
 ·have:=Fs (x:=x) (k:=k) u0 a u0
  omega
def SW(n:Nat){x d:Int}(hx:0<=x)(b:0<d)(c:x.natAbs<=2^200)(bd:d.natAbs<=2^200):C (n+8) 566 [R x,R d]=some (R (u9 x d)):=by
 have m0:=Int.emod_nonneg x (show d≠0 by omega)
 have m1:=Int.emod_lt_of_pos x b;have p1:(2:Nat)^201=2*2^200:=by rw[<-Nat.pow_succ']
 have i:1<=2^200:=Nat.one_le_two_pow;have a:∀ {z:Int},z.natAbs<=2*2^200->In z:=λf=>bJ (k:=201) H (by rw[p1];exact f)
 have g:(x/d).natAbs<=2^200:=zva (Int.natAbs_ediv_le_natAbs _ _) c;rw[YE];delta Km J0 J1 qb qc Z;refine O (lc (n+4) (a u0)) (O ah (O ac (aB (by rw[zV];omega) ?_)))
 refine O (mR n (a u0) (a u0) b) (O (yG n (a u0) (a u0) b) ?_)
 refine O (z:=(0,[R (u9 x d)])) ?_ rfl;refine O (rH (n+3) (a u0) (a u0) (a u0)) (O (NO (n+3) (a u0) (a u0)) (O cn (O ac ?_)))
 have e:decide (bk (x%d+x%d) d>0)=decide (x%d+x%d>d):=by rw[decide_eq_decide];unfold bk;split<;>(try split)<;>omega
 rw[e];unfold u9;by_cases h:x%d+x%d>d
 ·rw[zla h];exact au h (O (ou (n+5) (x:=1) (cj 1)) (O (rH (n+3) (a u0) (bB (cj 1)) (a u0)) rfl))
 ·grind
def aeO(n:Nat){x d:Int}(b:0<d)(e:x.natAbs<=2^200)(bd:d.natAbs<=2^200):C (n+9) 566 [R x,R d]=some (R (VB x d)):=by
 unfold VB;by_cases h:x<0
 ·rw[zla h];have p1:(2:Nat)^201=2*2^200:=by rw[<-Nat.pow_succ']
  have c:∀ {z:Int},z.natAbs<=2*2^200->In z:=λf=>bJ (k:=201) H (by rw[p1];exact f)
  have nb:(u9 (-x) d).natAbs<=2*2^200:=by
   have:=Fs (x:=-x) (d:=d) (k:=-x) u0 b (by
    have:=zvb (show(1:Int)<=d by omega) (show 0<=-x by omega)
    omega)
   omega
  rw[YE];delta Km J0 J1 qb qc Z;refine O (lc (n+5) (c u0)) (O ah (O ac (au (by rw[zV];omega) ?_)))
  exact O (Wr (n+5) (a:=some x) (bn (c u0))) (O (SW n (x:=-x) u0 b u0 bd) (O (Wr (n+5) (a:=some (u9 (-x) d)) (bn (c nb))) rfl))
 ·rw[zia h];exact SW (n+1) u0 b e bd
def gB:Bd:=λa=>(D.truth (D.bool (!(D.beq (Y a 1) (.int .i64 0))))).bind λc=> if c then((akk .rem (Y a 0) (Y a 1)).bind λb=>some (.inl [(Y a 1),b,(Y a 2)])) else some (.inr (0,[(Y a 0),(Y a 2)]))
def II{body:Bd}{s0:List D}{r:Nat×List D}(J:Nat->List D->Prop)(n:Nat)(h0:J 0 s0)(c:∀ i,i<n->∀ s,J i s->(∃ s',body s=some (.inl s')/\J (i+1) s')\/body s=some (.inr r))(he:∀ s,J n s->body s=some (.inr r)):F body s0=some r:=by obtain⟨r',h1,b⟩:=ss J (λx=>x=r) n 0 (zoa _) h0 (λi hi s a=>(c i hi s a).imp id λh=>⟨r,h,rfl⟩) (λs a=>⟨r,he s a,rfl⟩);rw[h1,b]
theorem Tc(X:D):∀ (m b a:Nat),b<m->F gB [I (a:Int),I (b:Int),X]=some (0,[I ((Nat.gcd a b:Nat):Int),X])
 | 0,b,a,h=>u0
 | m+1,b,a,h=>by
  have hq:D.truth (D.bool (!(D.beq (I (b:Int)) (.int .i64 0))))=some (decide (b≠0)):=by
   rw[show D.beq (I (b:Int)) (.int .i64 0)=decide ((b:Int)=0) from ci,ac,<-decide_not]
   simp_all
  by_cases h0:b=0
  ·refine cT (O hq ?_)
   simp_all
  ·have c:=zVa a (Nat.pos_of_ne_zero h0);refine(cB (a':=[I (b:Int),I ((a%b:Nat):Int),X]) (O hq (au h0 (O (ph u0) ?_)))).trans ?_
   ·grind
   ·show F gB [I (b:Int),I ((a%b:Nat):Int),X]=_;rw[Tc X m (a%b) b u0]
    grind [Nat.gcd_comm,Nat.gcd_rec]
def mV(r:Nat->Int):Nat->Nat
 | 0=>0
 | i+1=>Nat.gcd (mV r i) (r i).natAbs
theorem sf(r:Nat->Int):∀ k i,i<k->mV r k ∣ (r i).natAbs
 | 0,i,h=>u0
 | k+1,i,h=>by
  by_cases hk:i=k
  ·subst hk;exact zpb _ _
  ·exact zCc (zhb _ _) (sf r k i u0)
theorem AW{r:Nat->Int}{B:Nat}(h:∀ i,i<4->(r i).natAbs<=B):∀ k,k<=4->mV r k<=B
 | 0,_=>zoa _
 | k+1,hk=>by
  have h1:=h k u0;have a:=AW h k u0
  show Nat.gcd (mV r k) (r k).natAbs<=B;by_cases h0:mV r k=0
  ·simp_all
  ·exact zva (Nat.gcd_le_left _ (Nat.pos_of_ne_zero h0)) a
def LY{r:Nat->Int}{i:Nat}(hi:i<4)(h:r i≠0):mV r 4≠0:=λe=>by
 have:=sf r 4 i hi
 simp_all
def Iv(r:Nat->Int):Int:=if r 0≠0 then sg (r 0) else if r 1≠0 then sg (r 1) else if r 2≠0 then sg (r 2) else sg (r 3)
def rP(r:Nat->Int):Int:=Iv r*(mV r 4:Nat)
def rQ(r:Nat->Int):Nat->Int:=λi=>(r i).tdiv (rP r)
def LP{r:Nat->Int}(h:∃ i,i<4/\r i≠0):Iv r=1\/Iv r=-1:=by
 obtain⟨i,hi,h⟩:=h;have key:∀ x:Int,x≠0->sg x=1\/sg x=-1:=λx hx=>by unfold sg;split<;>(try split)<;>omega
 all_goals grind [Iv]
def Lt{r:Nat->Int}(b:∀ i,i<4->(r i).natAbs<=1000000)(h:∃ i,i<4/\r i≠0):rP r≠0/\(rP r).natAbs<=1000000/\(rP r).natAbs=mV r 4:=by obtain⟨i,hi,a⟩:=h;have h1:=LY hi a;have c:=AW b 4 (zja _);unfold rP;rcases LP ⟨i,hi,a⟩ with e|e<;>rw[e]<;>omega
def GW{r:Nat->Int}(h:∃ i,i<4/\r i≠0){i:Nat}(hi:i<4):r i=rP r*rQ r i:=by
 have a:rP r ∣ r i:=by
  refine Int.natAbs_dvd_natAbs.1 ?_;have:=sf r 4 i hi;have e:(rP r).natAbs=mV r 4:=by unfold rP;rcases LP h with e|e<;>rw[e]<;>omega
  simp_all
 exact(Int.mul_tdiv_cancel' a).symm
def aeP(n:Nat){r:Nat->Int}(d:∀ i,i<4->(r i).natAbs<=1000000)(h:∃ i,i<4/\r i≠0):C (n+1) 567 [gG r]=some (.tup [gG (rQ r),.bool true]):=by
 obtain⟨g0,g1,g2⟩:=Lt d h;rw[ahq];delta Qc Q P qJ iL iR Jn J0 bF bT bq nq qb qc qf qi qj qs qt qy;refine O (z:=(0,[I ((mV r 4:Nat):Int),gG r,D.st [I 0,I 0,I 0,I 0]])) ?_ ?_
 ·refine eP (λi s=>s=[I ((mV r i:Nat):Int),I (i:Int),gG r,D.st [I 0,I 0,I 0,I 0]]) 4 rfl (λi hi s c=>?_) (λs c=>?_)
  ·subst c;have f:=d i hi;refine⟨_,?_,rfl⟩;refine O ah (O ac (au (by show(i:Int)<4;omega) (O (aj hi) (O (z:=I (r i)) (by rw[zbb];exact jC hi) (O (nj (by simp only[inR];omega)) (O (z:=I (((r i).natAbs:Nat):Int)) (by rw[sB];congr 2;omega) ?_))))))
   exact O (Tc _ ((r i).natAbs+1) (r i).natAbs (mV r i) (zXc _)) (O (aA (a:=i) (b:=1) u0) rfl)
  ·subst c;exact O ah (O ac (aB H rfl))
 refine O (z:=false) ?_ ((zia H).trans ?_)
 ·show D.truth (.bool (D.beq (I ((mV r 4:Nat):Int)) (.int .i64 0)))=_;rw[show D.beq (I ((mV r 4:Nat):Int)) (.int .i64 0)=decide (((mV r 4:Nat):Int)=0) from ci,zfa u0];rfl
 refine O (z:=(0,[I (rP r)])) ?_ ?_
 ·refine II (λi s=>s=[I ((mV r 4:Nat):Int),I (i:Int)]/\∀ t,t<i->r t=0) 4 ⟨rfl,λt ht=>u0⟩ (λi hi s c=>?_) (λs c=>?_)
  ·obtain⟨rfl,c⟩:=c;by_cases h0:r i=0
   ·left;refine⟨[I ((mV r 4:Nat):Int),I ((i+1:Nat):Int)],?_,rfl,λt ht=>?_⟩
    ·refine O ah (O ac (au (by show(i:Int)<4;omega) (O (aj hi) (O (LL hi) (O (z:=false) ?_ ((zia H).trans (O (aA (a:=i) (b:=1) u0) rfl)))))))
     rw[show D.beq (I (r i)) (.int .i64 0)=decide (r i=0) from ci,zna h0];rfl
    ·grind
   ·right;have l:Iv r=sg (r i):=by
     have:i=0\/i=1\/i=2\/i=3:=u0
     all_goals grind [Iv]
    refine O ah (O ac (au (by show(i:Int)<4;omega) (O (aj hi) (O (LL hi) (O (z:=true) ?_ ((zla rfl).trans (O (z:=(0,[I (rP r)])) ?_ rfl)))))))
    ·rw[show D.beq (I (r i)) (.int .i64 0)=decide (r i=0) from ci,zfa h0];rfl
    ·have m:=AW d 4 (zja _);refine O ah (O ac ?_);unfold rP;rw[l];by_cases hn:r i<0
     ·refine au hn (O (nj (by simp only[inR];omega)) ?_)
      rw[show sg (r i)=-1 from by unfold sg;rw[zla hn],Int.neg_one_mul]
     ·refine aB hn ?_;rw[show sg (r i)=1 from by unfold sg;rw[zia hn,zla u0],Int.one_mul];rfl
  ·grind
 refine O (z:=(0,[gG (rQ r)])) ?_ rfl;refine eP (λi s=>s=[I (i:Int),iI 4 (λj=>if j<i then I (rQ r j) else I (r j))]) 4 rfl (λi hi s c=>?_) (λs c=>?_)
 ·subst c;have f:=d i hi;refine⟨_,?_,rfl⟩;have k:(rQ r i).natAbs<=1000000:=zva (by show((r i).tdiv (rP r)).natAbs<=(r i).natAbs;rw[Int.natAbs_tdiv];exact zfc _ _) f
  refine O ah (O ac (au (by show(i:Int)<4;omega) (qJ_row _ hi ?_)))
  rw[zia u0]
  refine O (uw g0 (show inR (rQ r i) by simp only[inR];omega)) (O (aj hi) (O (vM (g:=λj=>if j<i+1 then I (rQ r j) else I (r j)) hi λj _=>?_) (O (aA (a:=i) (b:=1) u0) rfl)))
  by_cases e:j=i
  ·subst e;rw[zla u0,zla rfl];rfl
  ·grind
 ·subst c;refine O ah (O ac (aB H ?_))
  have:iI 4 (λj=>if j<4 then I (rQ r j) else I (r j))=gG (rQ r):=rfl
  simp_all
def jd(z:Nat->Int):Nat->Nat
 | 0=>0
 | i+1=>if jd z i<(z i).natAbs then(z i).natAbs else jd z i
theorem Bc(z:Nat->Int):∀ k i,i<k->(z i).natAbs<=jd z k
 | 0,i,h=>u0
 | k+1,i,h=>by
  show _<=if jd z k<(z k).natAbs then(z k).natAbs else jd z k
  by_cases hk:i=k
  ·grind
  ·have:=Bc z k i u0
   grind
theorem Bb(z:Nat->Int):∀ k,jd z k=0\/∃ i,i<k/\jd z k=(z i).natAbs
 | 0=>.inl rfl
 | k+1=>by
  show(if jd z k<(z k).natAbs then(z k).natAbs else jd z k)=0\/∃ i,i<k+1/\(if jd z k<(z k).natAbs then(z k).natAbs else jd z k)=(z i).natAbs
  by_cases h:jd z k<(z k).natAbs
  ·grind
  ·rw[zia h];rcases Bb z k with e|⟨i,hi,e⟩
   ·omega
   ·grind
def IZ(z:Nat->Int):Int:=(jd z 4:Nat)/(mV z 4:Nat)
def zL(z:Nat->Int)(i:Nat):Int:=if IZ z>64 then VB (z i/(mV z 4:Nat)*64) (IZ z) else z i/(mV z 4:Nat)
def nQ(z:Nat->Int):Nat->Int:=rQ (zL z)
section
variable{z:Nat->Int}(h:∃ i,i<4/\z i≠0)
include h
def Dz:0<(mV z 4:Int)/\1<=IZ z/\(∀ i,i<4->(z i/(mV z 4:Nat)).natAbs<=(IZ z).natAbs/\z i=(mV z 4:Nat)*(z i/(mV z 4:Nat)))/\(∃ i,i<4/\(z i/(mV z 4:Nat)).natAbs=(IZ z).natAbs):=by
 obtain⟨i0,d,h0⟩:=h;have g0:=LY d h0;have dv:∀ i,i<4->((mV z 4:Nat):Int) ∣ z i:=λi hi=>Int.natAbs_dvd_natAbs.1 (by rw[zha];exact sf z 4 i hi)
 have ex:∀ i,i<4->z i=(mV z 4:Nat)*(z i/(mV z 4:Nat)):=λi hi=>(zUc (dv i hi)).symm;obtain⟨i1,c,g⟩:∃ i,i<4/\jd z 4=(z i).natAbs:=by
  rcases Bb z 4 with e|e
  ·have:=Bc z 4 i0 d;omega
  ·exact e
 have m:=λi (hi:i<4)=>Bc z 4 i hi;have f:(mV z 4) ∣ jd z 4:=by rw[g];exact sf z 4 i1 c
 have k:IZ z=((jd z 4/mV z 4:Nat):Int):=rfl;have j:=Nat.pos_of_ne_zero g0;have em:=(Nat.mul_div_cancel' f).symm;have l:∀ i,i<4->(z i).natAbs=mV z 4*(z i/(mV z 4:Nat)).natAbs:=λi hi=>by grind [Int.natAbs_mul,Int.natAbs_natCast]
 refine⟨u0,?_,λi hi=>⟨?_,ex i hi⟩,i1,c,?_⟩
 ·grind
 ·rw[k,zha];have a:=l i hi;have b:=m i hi;rw[a,em] at b;exact Nat.le_of_mul_le_mul_left b j
 ·rw[k,zha];have a:=l i1 c;rw[<-g,em] at a;exact(Nat.eq_of_mul_eq_mul_left j a).symm
def Tu:(∀ i,i<4->(zL z i).natAbs<=64)/\∃ i,i<4/\zL z i≠0:=by
 obtain⟨g0,m1,hle,i1,a,he⟩:=Dz h;refine⟨λi hi=>?_,i1,a,?_⟩
 ·have:=(hle i hi).1;unfold zL;split
  ·have:=X7 (x:=z i/(mV z 4:Nat)*64) (d:=IZ z) (k:=64) u0 u0
   omega
  ·omega
 ·unfold zL;split
  ·
   generalize z i1/(mV z 4:Nat)=w at *;generalize IZ z=M at *;have key:u9 (M*64) M=64:=by
    unfold u9;rw[Int.mul_emod_right,zZa _ u0]
    omega
   unfold VB;all_goals grind
  ·omega
def Rt:pe (nQ z)/\∃ i,i<4/\nQ z i≠0:=by
 obtain⟨h1,c⟩:=Tu h;obtain⟨i,hi,a⟩:=c;have g0:=(Lt (r:=zL z) (λi hi=>by have:=h1 i hi;omega) ⟨i,hi,a⟩).1
 refine⟨λk hk=>?_,i,hi,λe=>?_⟩
 ·have e:=zIa Int.natAbs (GW (r:=zL z) ⟨i,hi,a⟩ hk);rw[zwa] at e;have:=h1 k hk;have:(rQ (zL z) k).natAbs<=(rP (zL z)).natAbs*(rQ (zL z) k).natAbs:=zlb _ u0
  show(rQ (zL z) k).natAbs<=64;omega
 ·have b:=GW (r:=zL z) ⟨i,hi,a⟩ hi;rw[show rQ (zL z) i=0 from e,znd] at b;omega
end
def LA(z:Nat->Int):D:=iI 4 λi=>R (z i)
def Ud{x L:Nat}(h:x<=2^L):kz x<=L+1:=by
 by_cases h0:x=0
 ·subst h0;exact zoa _
 ·obtain⟨K,h1,a,b⟩:=il h0;rcases zua K (L+1) with k|k
  ·omega
  ·have:2^(L+1)<=2^K:=zqa H k
   omega
def Vw{z:Nat->Int}{B:Nat}(h:∀ i,i<4->(z i).natAbs<=B){k:Nat}(hk:k<=4):jd z k<=B:=by
 rcases Bb z k with e|⟨i,hi,e⟩
 ·omega
 ·grind
def aeI(n:Nat){z:Nat->Int}(g:∀ i,i<4->(z i).natAbs<=2^40)(h:∃ i,i<4/\z i≠0):C (n+1030) 538 [LA z]=some (.tup [gG (nQ z),I 0]):=by
 obtain⟨g0,m1,hle,_⟩:=Dz h;obtain⟨f,l⟩:=Tu h;have q:(2:Nat)^40=1099511627776:=rfl;have c:∀ {x:Int},x.natAbs<=2^60->In x:=λhx=>bJ (k:=60) H hx
 have r:(2:Nat)^60=1152921504606846976:=rfl;have gB:=λk (hk:k<=4)=>AW g k hk;have m:=λk (hk:k<=4)=>Vw g hk;have fz:∀ {i},i<4->D.fld (LA z) i=some (R (z i)):=λhi=>Bz _ hi;rw[ahg];delta P3 Q qT iL iR Jn J0 J1 bF bq qO qb qc qf qh qi qj Z qo qp qs qt qy qz;refine O (z:=(1,[D.st [I 0,I 0,I 0,I 0],R ((mV z 4:Nat):Int),R ((jd z 4:Nat):Int)])) ?_ ((zia (show ¬ (1=0) by decide)).trans ?_)
 ·refine eP (λi s=>s=[I (i:Int),D.st [I 0,I 0,I 0,I 0],R ((mV z i:Nat):Int),R ((jd z i:Nat):Int)]) 4 (by rw[rt];rfl) (λi hi s d=>?_) (λs d=>?_)
  ·subst d;have b:=g i hi;have t:=gB i u0;have o:=m i u0
   have ib:In (z i):=c u0
   have v:(kz (z i).natAbs:Int)<=41:=by have:=Ud b;omega
   refine⟨_,?_,rfl⟩;refine O ah (O ac (au (by show(i:Int)<4;omega) (O (z:=(1,[D.st [I 0,I 0,I 0,I 0],R ((mV z (i+1):Nat):Int),R ((jd z (i+1):Nat):Int)])) ?_ ((zia (show ¬ (1=0) by decide)).trans (O (aA (a:=i) (b:=1) u0) rfl)))))
   refine O (aj hi) (O (fz hi) (J (.bool false) (O ac (O (z:=false) ((zia H).trans (O (QF (n+1028) (a:=some (z i)) (bn ib)) rfl)) (O ac (O (z:=false) ((zia H).trans (O (Xe (n+1026) ib) (O cn ?_))) (O ac ((zia H).trans ?_))))))))
   ·rw[ac,zfa u0]
   refine O (wh n (c (by rw[zha];omega)) ib) (O (Xb (n+1026) ib) (O (NO (n+1025) (c (by rw[zha];omega)) (c (by rw[zha];omega))) (O cn (O ac ?_))))
   rw[zha];have e:decide (bk (((z i).natAbs:Nat):Int) ((jd z i:Nat):Int)>0)=decide (jd z i<(z i).natAbs):=by rw[decide_eq_decide];unfold bk;split<;>(try split)<;>omega
   rw[e];have em:jd z (i+1)=if jd z i<(z i).natAbs then(z i).natAbs else jd z i:=rfl
   by_cases hc:jd z i<(z i).natAbs
   ·rw[em,zla hc];exact au hc rfl
   ·rw[em,zia hc];exact aB hc rfl
  ·subst d;exact O ah (O ac (aB H rfl))
 have t:=gB 4 H;have o:=m 4 H
 have j:In ((mV z 4:Nat):Int):=c (by rw[zha];omega)
 refine O (lc (n+1026) j) (O (z:=false) ?_ ((zia H).trans ?_))
 ·rw[Ew,ac,zfa u0]
 refine O (z:=R (IZ z)) (mR (n+1022) (c (by rw[zha];omega)) j g0) (O (ou (n+1027) (x:=64) (cj 64)) ?_)
 have u:(IZ z).natAbs<=2^40:=zva (Int.natAbs_ediv_le_natAbs _ _) (by rw[zha];exact o)
 refine O (z:=(0,[gG (zL z)])) ?_ (O (aeP (n+1028) (λi hi=>by have:=f i hi;omega) l) rfl)
 refine eP (λi s=>s=[I (i:Int),iI 4 (rl (I 0) (λi=>I (zL z i)) i)]) 4 rfl (λi hi s d=>?_) (λs d=>?_)
 ·subst d;have b:=g i hi;have A:=(hle i hi).1;have y:=f i hi;refine⟨_,?_,rfl⟩;refine O ah (O ac (au (by show(i:Int)<4;omega) (O (aj hi) (O (fz hi) (O (mR (n+1022) (c u0) j g0) (O (z:=(0,[R (zL z i)])) ?_ ?_))))))
  ·refine O (NO (n+1025) (c u0) (bB (cj 64))) (O cn (O ac ?_))
   have e:decide (bk (IZ z) 64>0)=decide (IZ z>64):=by rw[decide_eq_decide];unfold bk;split<;>(try split)<;>omega
   rw[e];unfold zL;by_cases hc:IZ z>64
   ·rw[zla hc];refine au hc (O (js (n+1026) (c u0) (bB (cj 64)) (c u0)) (O (aeO (n+1020) u0 ?_ ?_) rfl))
    ·omega
    ·omega
   ·grind
  have w:=(wi (n+1025) (x:=zL z i) (c u0)).resolve_right (λk=>k.1 (by simp only[inR];omega))
  exact O w.2 (J (I (zL z i)) (J (.bool true) (O (aj hi) (O (od (p:=λi=>I (zL z i)) hi) (O (aA (a:=i) (b:=1) u0) rfl)))))
 ·subst d;refine O ah (O ac (aB H ?_))
  rw[lY];rfl
section
variable{h:Pth}
def qQ(h:Pth)(t:Rat)(i:Nat):Rat:=(aX h.x0 i:Rat)+t*((aX h.x1 i-aX h.x0 i:Int):Rat)
def Fx(h:Pth)(t:Rat):V:=⟨uk (qQ h t 0),uk (qQ h t 1),uk (qQ h t 2)⟩
def mF(h:Pth)(t:Rat)(i:Nat):Int:=(mS (h.p i) t).num*((t.den:Int)/((mS (h.p i) t).den:Int))
theorem ML(h:Pth)(t:Rat)(i:Nat):qQ h t i=Rat.divInt (aX h.x0 i*t.den+t.num*(aX h.x1 i-aX h.x0 i)) (t.den:Int):=by have a:=po t;have h0:=wC t;unfold qQ;rw[Rat.divInt_eq_div];grind
def VE(hh:h.Ok){t:Rat}(ht:Tm t){i:Nat}(hi:i<3):eO (qQ h t i) 40 20:=by
 have a:=ls hh.b0 hi;have b:=ls hh.b1 hi;have hn:=ht.n;have f:=ht.d;rw[ML];refine eG ?_ (c8 f) (bV t);have c:(2:Nat)^20=1048576:=rfl;have e:(2:Nat)^40=1099511627776:=rfl;have h1:(aX h.x0 i*t.den).natAbs<=1000*1048576:=by rw[zwa,zha];exact zFa u0 u0
 have g:(t.num*(aX h.x1 i-aX h.x0 i)).natAbs<=1048576*2000:=by rw[zwa];exact zFa u0 u0
 omega
theorem vG(hh:h.Ok){t:Rat}(ht:Tm t){i:Nat}(hi:i<3):((-1000:Int):Rat)<=qQ h t i/\qQ h t i<=((1000:Int):Rat):=by
 have a:=ls hh.b0 hi;have b:=ls hh.b1 hi;have a1:((-1000:Int):Rat)<=(aX h.x0 i:Rat):=Rat.intCast_le_intCast.2 u0
 have a2:(aX h.x0 i:Rat)<=((1000:Int):Rat):=Rat.intCast_le_intCast.2 u0
 have b1:((-1000:Int):Rat)<=(aX h.x1 i:Rat):=Rat.intCast_le_intCast.2 u0
 have b2:(aX h.x1 i:Rat)<=((1000:Int):Rat):=Rat.intCast_le_intCast.2 u0
 have t0:=ht.a;have t1:=ht.b;unfold qQ;rw[Vi];generalize (aX h.x0 i:Rat)=x at *;generalize (aX h.x1 i:Rat)=y at *;generalize ((-1000:Int):Rat)=m at *;generalize ((1000:Int):Rat)=M at *;have c:0<=1-t:=s6
 have p1:0<=(1-t)*(x-m):=Rat.mul_nonneg c s6
 have d:0<=t*(y-m):=Rat.mul_nonneg t0 s6
 have e:0<=(1-t)*(M-x):=Rat.mul_nonneg c s6
 have f:0<=t*(M-y):=Rat.mul_nonneg t0 s6
 grind
def VF(hh:h.Ok){t:Rat}(ht:Tm t):bd 1000 (Fx h t):=by
 have f:=λi (hi:i<3)=>M6 (vG hh ht hi).1 (vG hh ht hi).2;have f0:=f 0 H;have f1:=f 1 H;have f2:=f 2 H
 refine⟨?_,?_,?_⟩
 ·exact f0
 ·exact f1
 ·exact f2
theorem Rx{x:Rat}{A D:Int}(b:D≠0)(h:x*(D:Rat)=(A:Rat)):x.num*(D/(x.den:Int))=A:=by
 have hx:=po x;have h0:=wC x;have e:((x.num*D:Int):Rat)=((A*(x.den:Int):Int):Rat):=by grind
 have a:x.num*D=A*(x.den:Int):=by exact_mod_cast e
 have dv:(x.den:Int) ∣ D:=by
  have:(x.den:Int) ∣ x.num*D:=⟨A,by rw[a,zNc]⟩
  have k:x.den ∣ x.num.natAbs*D.natAbs:=by
   have:=Int.natAbs_dvd_natAbs.2 this
   rwa [zha,zwa] at this
  have:=(Nat.Coprime.dvd_of_dvd_mul_left (x.reduced.symm) k);exact Int.natAbs_dvd_natAbs.1 (by rw[zha];exact this)
 obtain⟨k,hk⟩:=dv;have hp:((x.den:Nat):Int)≠0:=by have:=x.den_pos;omega
 rw[hk,zZa _ hp];rw[hk] at a;have:(x.den:Int)*(x.num*k)=(x.den:Int)*A:=by grind
 exact Int.eq_of_mul_eq_mul_left hp this
def Mh(h:Pth)(t:Rat)(i:Nat):Int:=h.p i 0*t.den+h.p i 1*t.num
theorem tM(hh:h.Ok){t:Rat}{i:Nat}(hi:i<4):mS (h.p i) t=(h.p i 0:Rat)+(h.p i 1:Rat)*t:=by
 have z:=(hh.hp i hi).1;unfold mS;rw[z 2 H,z 3 H]
 grind
theorem HC(hh:h.Ok){t:Rat}{i:Nat}(hi:i<4):mF h t i=Mh h t i:=by refine Rx (D:=(t.den:Int)) (bV t) ?_;have hx:=po t;rw[tM hh hi];unfold Mh;grind
theorem VG(hh:h.Ok){t:Rat}(ht:Tm t):∀ i,i<4->(mF h t i).natAbs<=2^40:=λi hi=>by
 rw[HC hh hi];have b:=(hh.hp i hi).2;have b0:=b 0;have b1:=b 1;have hn:=ht.n;have g:=ht.d;have a:(2:Nat)^20=1048576:=rfl;have c:(2:Nat)^40=1099511627776:=rfl;have e:(2:Nat)^7=128:=rfl;have h1:(h.p i 0*t.den).natAbs<=128*1048576:=by rw[zwa,zha];exact zFa u0 u0
 have f:(h.p i 1*t.num).natAbs<=128*1048576:=by rw[zwa];exact zFa u0 u0
 grind [Mh]
theorem VQ(hh:h.Ok)(t:Rat):lQ h t=mS (h.p 0) t*mS (h.p 0) t+mS (h.p 1) t*mS (h.p 1) t+mS (h.p 2) t*mS (h.p 2) t+mS (h.p 3) t*mS (h.p 3) t:=by
 rw[tM hh H,tM hh H,tM hh H,tM hh H]
 unfold lQ nW Pth.p kE mS;generalize kD h.q0 h.q1*h.q1 0-h.q0 0=d0;generalize kD h.q0 h.q1*h.q1 1-h.q0 1=d1;generalize kD h.q0 h.q1*h.q1 2-h.q0 2=d2;generalize kD h.q0 h.q1*h.q1 3-h.q0 3=d3;generalize h.q0 0=x0;generalize h.q0 1=x1;generalize h.q0 2=a;generalize h.q0 3=b;simp only[(Ms _ _ _ _).1,(Ms _ _ _ _).2.1,(Ms _ _ _ _).2.2.1,(Ms _ _ _ _).2.2.2];show _=((x0:Int)+(d0:Int)*t)*(x0+d0*t)+((x1:Int)+(d1:Int)*t)*(x1+d1*t)+((a:Int)+(d2:Int)*t)*(a+d2*t)+((b:Int)+(d3:Int)*t)*(b+d3*t);grind
theorem HD(hh:h.Ok){t:Rat}(ht:Tm t):∃ i,i<4/\mF h t i≠0:=by
 have c:=vO hh ht.a ht.b;rw[VQ hh] at c;have hx:=po t;have h0:=wC t;have k:∀ i,i<4->mF h t i=0->mS (h.p i) t=0:=λi hi e=>by
  rw[HC hh hi] at e;have d:((Mh h t i:Int):Rat)=0:=by rw[e];rfl
  unfold Mh at d;all_goals grind [ju,fe,tM]
 by_cases a0:mF h t 0=0
 ·by_cases a1:mF h t 1=0
  ·by_cases a2:mF h t 2=0
   ·by_cases a3:mF h t 3=0
    ·rw[k 0 H a0,k 1 H a1,k 2 H a2,k 3 H a3] at c
     grind
    ·grind
   ·grind
  ·grind
 ·grind
def MM(hh:h.Ok){t:Rat}(ht:Tm t):PoseOk (Fx h t) (nQ (mF h t)):=by obtain⟨a,b⟩:=Rt (HD hh ht);obtain⟨x,y,z⟩:=VF hh ht;exact⟨⟨u0,u0,u0⟩,a,b⟩
def VZ{d d':D}{l:List D}{i:Nat}{v:D}(h:D.set d [i] v=some d'):D.set (.st (d::l)) [0,i] v=some (.st (d'::l)):=by show((D.set d [i] v).bind λa=>some (D.st ((d::l).set 0 a)))=_;rw[h];rfl
theorem If(n:Nat)(hh:h.Ok){t:Rat}(ht:Tm t):C (n+1034) 508 [h.enc,av t]=some (dW (Fx h t) (nQ (mF h t))):=by
 have m:=VG hh ht;have r:(2:Nat)^20=1048576:=rfl;have u:(2:Nat)^40=1099511627776:=rfl;rw[ag2];delta PL Q P iL iR Jn J0 J3 bF qc qf qi qj Z qp qs qy;refine O (z:=(0,[D.st [iI 3 (λi=>I (uk (qQ h t i))),D.st [I 0,I 0,I 0,I 0]]])) ?_ (O (z:=GZ h.p) (Ut (n+1028) hh.p0.hq hh.p1.hq) (O (z:=(0,[LA (mF h t)])) ?_ (O (aeI (n+3) m (HD hh ht)) rfl)))
 ·refine eP (λi s=>s=[I (i:Int),D.st [iI 3 (rl (I 0) (λi=>I (uk (qQ h t i))) i),D.st [I 0,I 0,I 0,I 0]]]) 3 rfl (λi hi s c=>?_) (λs c=>?_)
  ·subst c;have a:=ls hh.b0 hi;have b:=ls hh.b1 hi;have A:=M6 (vG hh ht hi).1 (vG hh ht hi).2;have f:eO ((aX h.x0 i:Int):Rat) 10 0:=mf u0
   have bb:eO ((aX h.x1 i-aX h.x0 i:Int):Rat) 11 0:=mf u0
   have j:eO t 20 20:=⟨ht.n,ht.d⟩;have g:eO (t*((aX h.x1 i-aX h.x0 i:Int):Rat)) 31 20:=by
    have e:t*((aX h.x1 i-aX h.x0 i:Int):Rat)=Rat.divInt (t.num*(aX h.x1 i-aX h.x0 i)) (t.den:Int):=by have y:=po t;have h0:=wC t;grind [Rat.divInt_eq_div,fe]
    rw[e];exact eG (by rw[zwa,show(2:Nat)^31=2^20*2^11 from rfl];exact zFa ht.n u0) (c8 ht.d) (bV t)
   refine⟨_,?_,rfl⟩;refine O ah (O ac (au (by show(i:Int)<3;omega) (O (aj hi) (O (jX hi) (O (Es (n+1) (by simp only[inR];omega)) (O (aj hi) (O (LW hi) (O (bW (by simp only[inR];omega)) (O (Es (n+1) (by simp only[inR];omega)) (O (ad9 (n+2) j.inR bb.inR (j.fitM bb)) (O (ad8 (n+2) f.inR g.inR (f.fitA g)) (O (aeH (n+1) (q:=qQ h t i) ((VE hh ht hi).mono H H)) ?_))))))))))))
   have v:=(wi (n+1029) (x:=uk (qQ h t i)) (bJ (k:=60) H (by have:(2:Nat)^60=1152921504606846976:=rfl;omega))).resolve_right (λk=>k.1 (by simp only[inR];omega))
   exact O v.2 (J (I (uk (qQ h t i))) (J (.bool true) (O (aj hi) (O (VZ (od (p:=λi=>I (uk (qQ h t i))) hi)) (O (aA (a:=i) (b:=1) u0) rfl)))))
  ·subst c;refine O ah (O ac (aB H ?_))
   simp_all [lY]
 ·refine eP (λi s=>s=[I (i:Int),iI 4 (rl (R 0) (λi=>R (mF h t i)) i)]) 4 (by rw[rt];rfl) (λi hi s c=>?_) (λs c=>?_)
  ·subst c;have hp:=hh.hp i hi;have w:=m i hi;have l:=QZ hp H H ht.t
   refine⟨_,?_,rfl⟩;refine O ah (O ac (au (by show(i:Int)<4;omega) (O (aj hi) (O (Bz _ hi) (O (Ur n hp H H ht.t) ?_)))))
   refine J (R (mS (h.p i) t).num) (J (R ((t.den:Nat):Int)) (J (R (((mS (h.p i) t).den:Nat):Int)) ?_));have dp:0<((mS (h.p i) t).den:Int):=by have:=(mS (h.p i) t).den_pos;omega
   have o:((t.den:Int)/((mS (h.p i) t).den:Int)).natAbs<=2^20:=zva (Int.natAbs_ediv_le_natAbs _ _) (c8 ht.d);refine O (mR (n+1026) (bJ (k:=20) H (c8 ht.d)) (bJ (k:=60) H (c8 l.2)) dp) (O (js (n+1030) (bJ (k:=89) H l.1) (bJ (k:=20) H o) (bJ (k:=40) H w)) ?_)
   exact O (aj hi) (O (od (p:=λi=>R (mF h t i)) hi) (O (aA (a:=i) (b:=1) u0) rfl))
  ·subst c;refine O ah (O ac (aB H ?_))
   rw[lY];rfl
end
section
variable{l:List V}{F G:FL}{q:Nat->Int}{E:List (Nat×Nat)}
theorem KnF.eq(c:JO l)(h:KnF l l.length 0 0 F)(k:KnF l l.length 0 0 G):F=G:=by
 have e:=Facets.eq h.facets k.facets;have el:F.length=G.length:=by have:=zIa List.length e;simpa using this
 refine List.ext_getElem el λi h1 b=>?_;have a:F[i].1=G[i].1:=by
  have d:(F.map Prod.fst)[i]?=(G.map Prod.fst)[i]?:=by rw[e]
  grind
 obtain⟨a1,a2⟩:=h.fok.ok F[i] (zGa h1);obtain⟨b1,b2⟩:=k.fok.ok G[i] (zGa b);rw[<-a] at b2;exact Prod.ext a (bZ.eq c a1 a2 b2)
structure Fac(l:List V)(F:FL)(E:List (Nat×Nat)):Prop where
 kn:KnF l l.length 0 0 F
 fb:WG F
 e:E=nk F l.length l.length
 el:E.length<=10000
 lt:∀ e∈E,e.1<l.length/\e.2<l.length
 h18:∀ m,C (m+8) 18 [bw l]=some (.sl (aU F))
 h19:∀ m,C (m+8) 19 [bw l]=some (.sl (aU F))
 h21:∀ m,C (m+9) 21 [bw l]=some (.sl (E.map dP))
 h22:∀ m,C (m+9) 22 [bw l]=some (.sl (E.map dP))
def SQ(hl:∀ x∈l,bd 4096 x)(hlen:l.length<=64)(a:JO l):∃ F E,Fac l F E:=by
 have hl':∀ x∈l,bd MV x:=λx hx=>Gz (hl x hx) H
 obtain⟨F,E,f1,f2,f3,_,_,_,_,f4⟩:=WT 0 hl' (show l.length<=100 by omega) a
 have all:∀ m,C (m+8) 18 [bw l]=some (.sl (aU F))/\C (m+8) 19 [bw l]=some (.sl (aU F))/\C (m+9) 21 [bw l]=some (.sl (E.map dP))/\C (m+9) 22 [bw l]=some (.sl (E.map dP)):=λm=>by
  obtain⟨F',E',g1,g2,g3,g5,g6,g7,g8,g4⟩:=WT m hl' (show l.length<=100 by omega) a
  have:=f3.eq a g3
  simp_all
 refine⟨F,E,f3,⟨zva f1 H,λf b=>IB hl (f3.fok.ok f b).1⟩,f4,f2,λe he=>?_,λm=>(all m).1,λm=>(all m).2.1,λm=>(all m).2.2.1,λm=>(all m).2.2.2⟩
 rw[f4] at he;have:=Dh.1 he;omega
def ru(q:Nat->Int)(l:List V)(e:Nat×Nat):V:=pF q ((A l e.2).sub (A l e.1))
def Eb(hl:∀ x∈l,bd 4096 x){i j:Nat}(hi:i<l.length)(a:j<l.length):bd 8192 ((A l j).sub (A l i)):=k9 (hl _ (li a)) (hl _ (li hi))
def AK(h:pe q)(hl:∀ x∈l,bd 4096 x){e:Nat×Nat}(he:e.1<l.length/\e.2<l.length):bd 402653184 (ru q l e):=El (k:=8192) h (Eb hl he.1 he.2)
def Yl{α:Type}{E:List α}(g:α->D){i:Nat}(hi:i<E.length):((E.take i).map g)++[g E[i]]=(E.take (i+1)).map g:=by rw[List.take_add_one,zda hi];simp only[Option.toList_some,zib,z4a,zld]
def ae7{i:Nat}(hi:i<E.length):(E.map dP)[i]?=some (dP E[i]):=by simp[hi]
def Xj(n:Nat){x:V}(h:PoseOk x q)(hl:∀ v∈l,bd 4096 v)(d:Fac l F E):C (n+10) 449 [jB x q l]=some (.sl (E.map λe=>ag (ru q l e))):=by
 rw[agK];delta Pq Q qS qX qV qW iL iR J0 jl qc qj Z qu qy;refine J (bw l) (O (d.h21 n) (J (E.map dP) ?_));refine cH (λi s=>s=[.sl ((E.take i).map λe=>ag (ru q l e)),I (i:Int)]) E.length 0 (zoa _) rfl (λi hi s f=>?_) (λs f=>?_)
 ·subst f;left;obtain⟨h1,c⟩:=d.lt E[i] (zGa hi);have g:=d.el;refine⟨_,?_,rfl⟩;rw[<-Yl (λe=>ag (ru q l e)) hi];refine O ah (O ac (au (by rw[sA];omega) ?_))
  refine J (E.map dP) (O (z:=i) (by rw[sA];exact aj hi) (O (ae7 hi) ?_))
  refine J (gG q) (J (bg l) (J (I (E[i].2:Int)) (J (l.map ag) (O (z:=E[i].2) (by rw[aG];exact aj c) (O (Bt c) ?_)))))
  refine J (bg l) (J (I (E[i].1:Int)) (J (l.map ag) (O (z:=E[i].1) (by rw[aG];exact aj h1) (O (Bt h1) ?_))))
  refine O (KP (n+7) (hl _ (li c)) (hl _ (li h1)) H) (O (z:=ag (ru q l E[i])) (SS (n+6) h.hq (Gz (Eb hl h1 c) H)) ?_)
  obtain⟨L,hL⟩:∃ L,((E.take i).map λe=>ag (ru q l e))=L:=⟨_,rfl⟩;rw[hL];have hn:List.length (D.els (.sl L))+List.length [ag (ru q l E[i])]<=1073741824:=by rw[<-hL];show((E.take i).map _).length+1<=_;simp;omega
  refine(zla hn).trans ?_;exact O (aA (a:=i) (b:=1) u0) rfl
 ·subst f;refine⟨_,O ah (O ac (aB (by rw[sA];omega) rfl)),?_⟩
  rw[zub (zja _)];rfl
def ki(b a:V->Rat)(S:Option (V×Rat))(u:V):Option (V×Rat):=
 if b u<0 then S else match S with
  | none=>some (u,a u)
  | some p=>if p.2<a u then some (u,a u) else some p
def mN(a b:V->Rat)(T:List V×Option (V×Rat))(u:V):List V×Option (V×Rat):=if u=V.zero\/u∈T.1 then T else(T.1++[u],ki a b T.2 u)
def BC(a b:V->Rat)(R:List V):List V×Option (V×Rat):=R.foldl (mN a b) ([],none)
def DV(a b:V->Rat)(R:List V)(u:V):BC a b (R++[u])=mN a b (BC a b R) u:=by simp[BC]
def Mi{P:List V->Prop}(h0:P [])(h1:∀ R u,P R->P (R++[u]))(R:List V):P R:=by
 have key:∀ R:List V,P R.reverse:=λR=>by
  induction R with
  | nil=>exact h0
  | cons u R ih=>rw[List.reverse_cons];exact h1 _ _ ih
 have:=key R.reverse
 rwa [List.reverse_reverse] at this
def NQ(q:Nat->Int)(F:FL):List V:=F.map λf=>aS (pF q f.1.1)
def NW(q r:Nat->Int)(l m:List V)(E:List (Nat×Nat))(e:Nat×Nat):List V:=E.flatMap λf=>[aS (V.cross (ru q l e) (ru r m f)),(aS (V.cross (ru q l e) (ru r m f))).neg]
def FD(q r:Nat->Int)(l m:List V)(F G:FL)(E E':List (Nat×Nat)):List V:=(NQ q F++(NQ r G).map V.neg)++E.flatMap (NW q r l m E')
def ui{v:V}:aS v=V.zero↔v=V.zero:=xp
def Dr{v:V}:v.neg=V.zero↔v=V.zero:=by
 obtain⟨x,y,z⟩:=v
 simp_all [V.neg,V.zero,V.mk.injEq]
def AQ(h:pe q)(a:WG F){f:(V×Int)×List Nat}(b:f∈F):bd NB (pF q f.1.1):=
 Gz (El (k:=549755813888) h (a.2 f b).1) H
def mv(u:V):D:=.st [ag u,.bool true]
theorem Dj:∀ (K:List V) (u:V),Option.getD (akr (K.map mv) (ag u)) (D.bool false)=.bool (decide (u∈K))
 | [],u=>rfl
 | k::K,u=>by
  show Option.getD (if D.beq (ag u) (ag k)=true then some (D.bool true) else akr (K.map mv) (ag u)) (D.bool false)=_
  rw[kH];by_cases h:u=k
  ·subst h;simp
  ·rw[zia (by simpa using h),Dj K u]
   simp[h]
theorem sC:∀ (K:List V) (u:V),u ∉ K->aks (K.map mv) (ag u) (.bool true)=(K++[u]).map mv
 | [],u,_=>rfl
 | k::K,u,h=>by
  simp only[zOa,not_or] at h;show(if D.beq (ag u) (ag k)=true then _ else D.st [ag k,.bool true]::aks (K.map mv) (ag u) (.bool true))=_
  rw[kH,zia (by simpa using h.1),sC K u h.2]
  rfl
end
section
variable{u:V}
def zrD:D:=.st [.st [.bool false,.bool false,az bf],.st [.bool false,.bool false,az bf]]
def JL:D:=.st [ag V.zero,zrD]
def jV(dp:V->Rat):Option (V×Rat)->D
 | none=>JL
 | some p=>.st [ag p.1,av (dp p.1)]
def je:Option (V×Rat)->D
 | none=>zrD
 | some p=>av p.2
section
variable{x y:V}{q r:Nat->Int}{l m:List V}
def WS(n:Nat)(h:PairOk x y q r l m)(hu:bd NB u)(h0:u≠V.zero){S:Option (V×Rat)}(L:∀ p,S=some p->InR p.2){α:Type}{A:Option α}{B:D->D->Option α}{Y:Option α}
  (G:ki (λu=>pB u x y q r l m) (λu=>Eu u x y q r l m) S u=S->A=Y)
  (K:ki (λu=>pB u x y q r l m) (λu=>Eu u x y q r l m) S u=some (u,Eu u x y q r l m)->B (av (Zo u x y q r l m)) (av (Eu u x y q r l m))=Y) :
  ((C (n+1033) 434 [ag u,jB x q l,jB y r m]).bind λa=>(C (n+1033) 342 [a]).bind λs=>(akk .lss s (D.int .i64 0)).bind λE=>(D.truth E).bind λi=>
   if i=true then A else (C (n+1033) 174 [a,a]).bind λt=>(C (n+1033) 91 [ag u,ag u]).bind λv=>(C (n+1033) 54 [D.int .i64 1]).bind λw=>(C (n+1033) 62 [v,w]).bind λz=>(C (n+1033) 352 [t,z]).bind λf=>
   (D.truth (D.bool S.isSome)).bind λj=>Option.bind (if j=true then (C (n+1033) 73 [f,je S]).bind λQ=>(akk .leq Q (D.int .i64 0)).bind λF=>D.truth F else some false) λk=>(D.truth (D.bool k)).bind λo=>
   if o=true then A else (C (n+1033) 435 [jB x q l,ag u]).bind λb=>(C (n+1033) 74 [D.int .i64 2]).bind λc=>(C (n+1033) 352 [a,c]).bind λd=>(C (n+1033) 173 [b,d]).bind λe=>B e f)=Y:=by
 have hm:=Mm h hu;have sm:=uc h hu;have g:=aH (sm.InR H H)
 have O:=NA h hu h0;have N:=aH (O.InR H H)
 obtain⟨v1,v2⟩:=ahx h hu h0;have dd:=ae2 h hu;have JQ:=aep n h hu;rw[hm] at JQ;have i1:=(wH hu (Gp hu)).2.2.2.2;rw[JQ,zba,show C (n+1033) 342 [bH (some (pB u x y q r l m))]=some (I (TF (some (pB u x y q r l m)))) from Ie (n+2) g,zba,
  show akk .lss (I (TF (some (pB u x y q r l m)))) (D.int .i64 0)=some (.bool (decide (TF (some (pB u x y q r l m))<0))) from ah,zba,ac,zba,Nd]
 by_cases hneg:pB u x y q r l m<0
 ·rw[zna hneg,zla rfl];exact G (by unfold ki;rw[zla hneg])
 ·rw[zfa hneg,zia H]
  have P:C (n+1033) 62 [R (V.dot u u),R 1]=some (bH (some ((V.dot u u:Int):Rat))):=by
   have:=KY (n+3) i1 (bB (cj 1)) (show(1:Int)≠0 by decide)
   rw[div_one] at this;exact this
  rw[show C (n+1033) 174 [bH (some (pB u x y q r l m)),bH (some (pB u x y q r l m))]=_ from GD (n+2) g g,v1,zba,show C (n+1033) 91 [ag u,ag u]=_ from Ux (n+1027) hu (Gp hu),zba,
   show C (n+1033) 54 [D.int .i64 1]=some (R 1) from ou (n+1031) (cj 1),zba,P,zba,
   show C (n+1033) 352 [bH (some (pB u x y q r l m*pB u x y q r l m)),bH (some ((V.dot u u:Int):Rat))]=_ from yI (n+1) (aH ((sm.mul sm).InR H H)) (aH (Gl i1)),v2,zba,ac,zba]
  have tail:ki (λu=>pB u x y q r l m) (λu=>Eu u x y q r l m) S u=some (u,Eu u x y q r l m)->((C (n+1033) 435 [jB x q l,ag u]).bind λb=>(C (n+1033) 74 [D.int .i64 2]).bind λc=>(C (n+1033) 352 [bH (some (pB u x y q r l m)),c]).bind λd=>(C (n+1033) 173 [b,d]).bind λe=>B e (bH (some (Eu u x y q r l m))))=Y:=λM=>by
   have J:C (n+1033) 74 [D.int .i64 2]=some (bH (some ((2:Int):Rat))):=Es (n+1) (cj 2);rw[show C (n+1033) 435 [jB x q l,ag u]=some (bH (some (kQ u x q l))) from Uo (n+2) hu h.pa h.la h.na h.ka,zba,J,zba,
    show C (n+1033) 352 [bH (some (pB u x y q r l m)),bH (some ((2:Int):Rat))]=_ from yI (n+1) g (aH (Gl (bB (cj 2)))),zba,
    show C (n+1033) 173 [bH (some (kQ u x q l)),bH (wF (some (pB u x y q r l m)) (some ((2:Int):Rat)))]=_ from yH (n+2) (aH (xu hu h.pa h.la h.na)) (GX _ _),dd,zba]
   exact K M
  cases S with
  | none=>
   rw[show(none:Option (V×Rat)).isSome=false from rfl,zia H,zba,ac,zba,zia H]
   exact tail (by unfold ki;rw[zia hneg])
  | some p=>
   have op:=aH (L p rfl);rw[show(some p:Option (V×Rat)).isSome=true from rfl,zla rfl,show je (some p)=bH (some p.2) from rfl,show C (n+1033) 73 [bH (some (Eu u x y q r l m)),bH (some p.2)]=_ from yh (n+2) N op,zba,
    show akk .leq (I (oT (some (Eu u x y q r l m)) (some p.2))) (D.int .i64 0)=some (.bool (decide (oT (some (Eu u x y q r l m)) (some p.2)<=0))) from ja,zba,ac,zba,ac,zba,SY]
   by_cases hc:p.2<Eu u x y q r l m
   ·rw[zna hc,zia H]
    exact tail (by unfold ki;rw[zia hneg];simp only[hc,if_true])
   ·rw[zfa hc,zla H]
    exact G (by unfold ki;rw[zia hneg];simp only[hc,if_false])
end
def V6{v:V}(f:u=V.zero↔v=V.zero){K:List V}{e:D}{kn:List D}{w:D}(he:e=I (if v=V.zero then 31 else 0))(hk:kn=K.map mv)(hw:w=ag u){α:Type}{A B Y:Option α}(d:u=V.zero\/u∈K->A=Y)(g:¬ (u=V.zero\/u∈K)->B=Y) :
  ((D.truth (D.bool (!(D.beq e (D.int .i64 0))))).bind λa=>Option.bind (if a=true then some true else D.truth (Option.getD (akr kn w) (D.bool false))) λb=>(D.truth (D.bool b)).bind λc=>if c=true then A else B)=Y:=by
 subst he hk hw;rw[Dj];by_cases h:v=V.zero
 ·rw[zla h];exact d (.inl (f.2 h))
 ·rw[zia h];show(if decide (u∈K)=true then A else B)=Y
  all_goals simp_all
end
def Rb{α:Type}{A B y:α}(h:B=y):(if(1:Nat)=0 then A else B)=y:=h
def R5(k:Nat)(u:V):V:=if 1-2*(k:Int)<0 then u.neg else u
def Nb{k:Nat}{u:V}:R5 k u=V.zero↔u=V.zero:=by
 unfold R5;split
 ·exact Dr
 ·simp_all
def HK{a b:V->Rat}(R:List V):(∀ u∈(BC a b R).1,u∈R/\u≠V.zero)/\∀ p,(BC a b R).2=some p->p.1∈R/\p.1≠V.zero/\¬ a p.1<0/\p.2=b p.1:=by
 refine Mi (P:=λR=>(∀ u∈(BC a b R).1,u∈R/\u≠V.zero)/\∀ p,(BC a b R).2=some p->p.1∈R/\p.1≠V.zero/\¬ a p.1<0/\p.2=b p.1) ⟨λu hu=>(by cases hu),λp hp=>(by cases hp)⟩ (λR u ih=>?_) R
 obtain⟨i1,i2⟩:=ih;rw[DV];unfold mN;split
 ·exact⟨λw hw=>⟨List.mem_append_left _ (i1 w hw).1,(i1 w hw).2⟩,λp hp=>⟨List.mem_append_left _ (i2 p hp).1,(i2 p hp).2⟩⟩
 ·rename_i hn;have c:u≠V.zero:=λh=>hn (.inl h);refine⟨λw hw=>?_,λp hp=>?_⟩
  ·rcases zKa.1 hw with hw|hw
   ·exact⟨List.mem_append_left _ (i1 w hw).1,(i1 w hw).2⟩
   ·rw[zUa.1 hw];exact⟨j2,c⟩
  ·have old:(BC a b R).2=some p->p.1∈R++[u]/\p.1≠V.zero/\¬ a p.1<0/\p.2=b p.1:=λh=>⟨List.mem_append_left _ (i2 p h).1,(i2 p h).2⟩;dsimp only[ki] at hp;split at hp
   ·exact old hp
   ·rename_i hm;split at hp
    ·cases hp;exact⟨j2,c,hm,rfl⟩
    ·rename_i d e;split at hp
     ·cases hp;exact⟨j2,c,hm,rfl⟩
     ·cases hp;exact old e
def y9{α β:Type}{E:List α}(g:α->List β){i:Nat}(hi:i<E.length):(E.take (i+1)).flatMap g=(E.take i).flatMap g++g E[i]:=by rw[List.take_add_one,zda hi];simp only[Option.toList_some,List.flatMap_append,List.flatMap_cons,List.flatMap_nil,zVb]
section
variable{x y:V}{q r:Nat->Int}{l m:List V}{F G:FL}{E E':List (Nat×Nat)}
def HF(h:PairOk x y q r l m)(hl:Fac l F E)(hm:Fac m G E'):∀ u∈FD q r l m F G E E',bd NB u:=by
 intro u hu;rcases zKa.1 hu with hu|hu
 ·rcases zKa.1 hu with hu|hu
  ·obtain⟨f,a,rfl⟩:=zmb.1 hu;exact fJ (AQ h.pa.hq hl.fb a)
  ·obtain⟨w,hw,rfl⟩:=zmb.1 hu;obtain⟨f,a,rfl⟩:=zmb.1 hw;exact mC (fJ (AQ h.pb.hq hm.fb a))
 ·obtain⟨e,he,hu⟩:=zqb.1 hu;obtain⟨f,a,hu⟩:=zqb.1 hu;have b:=fJ (yR (AK h.pa.hq h.la (hl.lt e he)) (AK h.pb.hq h.lb (hm.lt f a)));simp only[zOa,zkc,or_false] at hu;rcases hu with rfl|rfl
  ·exact b
  ·exact mC b
def gn(x y:V)(q r:Nat->Int)(l m:List V)(R:List V):List V×Option (V×Rat):=BC (λu=>pB u x y q r l m) (λu=>Eu u x y q r l m) R
def M9(x y:V)(q r:Nat->Int)(l m:List V)(R:List V)(u:V):gn x y q r l m (R++[u])=mN (λu=>pB u x y q r l m) (λu=>Eu u x y q r l m) (gn x y q r l m R) u:=DV ..
def RY(h:PairOk x y q r l m){R:List V}(c:∀ u∈R,bd NB u):∀ p,(gn x y q r l m R).2=some p->InR p.2:=λp hp=>by obtain⟨h1,a,_,b⟩:=(HK R).2 p hp;rw[b];exact(NA h (c _ h1) a).InR H H
def Un(n:Nat)(h:PairOk x y q r l m)(hl:Fac l F E)(hm:Fac m G E') :
  C (n+1034) 416 [dW x q,bw l,dW y r,bw m]=some (.tup [jV (λu=>Zo u x y q r l m) (gn x y q r l m (FD q r l m F G E E')).2,.bool (gn x y q r l m (FD q r l m F G E E')).2.isSome]):=by
 rw[agC];delta Pg Q P qT qS qX qV qW iL iR Jn J0 J1 J2 bF bT jl nq qA qO qb qc qh qi qj Z qn qp qy;obtain⟨P1,e1⟩:∃ P1,P1=jB x q l:=⟨_,rfl⟩;obtain⟨P2,e2⟩:∃ P2,P2=jB y r m:=⟨_,rfl⟩;obtain⟨dp,an⟩:∃ dp:V->Rat,dp=λu=>Zo u x y q r l m:=⟨_,rfl⟩;rw[<-an];obtain⟨o,ax⟩:∃ o:V->Rat,o=λu=>pB u x y q r l m:=⟨_,rfl⟩;obtain⟨d,aI⟩:∃ d:V->Rat,d=λu=>Eu u x y q r l m:=⟨_,rfl⟩;have app:∀ R u,gn x y q r l m (R++[u])=mN o d (gn x y q r l m R) u:=λR u=>by rw[ax,aI];exact M9 ..
 refine O (z:=P1) (by rw[e1];exact Xh (n+1029) h.pa h.la h.ka) (O (z:=P2) (by rw[e2];exact Xh (n+1029) h.pb h.lb h.kb) ?_)
 have hR:=HF h hl hm;obtain⟨T,hT⟩:∃ T,gn x y q r l m (FD q r l m F G E E')=T:=⟨_,rfl⟩;rw[hT];refine O (z:=(0,[JL,P1,P2,jV dp T.2,je T.2,.bool T.2.isSome])) ?_ rfl;have body:∀ (R:List V) (u:V),(∀ w∈R++[u],bd NB w)->∀ {α:Type} {K:List V} {S:Option (V×Rat)} {A:Option α} {B:D->D->Option α} {Y:Option α},(gn x y q r l m R)=(K,S)->u≠V.zero ->
   (ki o d S u=S->A=Y)->(ki o d S u=some (u,d u)->B (av (dp u)) (av (d u))=Y) ->
   ((C (n+1033) 434 [ag u,P1,P2]).bind λb0=>(C (n+1033) 342 [b0]).bind λbj=>(akk .lss bj (D.int .i64 0)).bind λb4=>(D.truth b4).bind λa4=>
   if a4=true then A else (C (n+1033) 174 [b0,b0]).bind λbl=>(C (n+1033) 91 [ag u,ag u]).bind λbm=>(C (n+1033) 54 [D.int .i64 1]).bind λbs=>(C (n+1033) 62 [bm,bs]).bind λbt=>(C (n+1033) 352 [bl,bt]).bind λa3=>
   (D.truth (D.bool S.isSome)).bind λa5=>Option.bind (if a5=true then (C (n+1033) 73 [a3,je S]).bind λbv=>(akk .leq bv (D.int .i64 0)).bind λb5=>D.truth b5 else some false) λa6=>(D.truth (D.bool a6)).bind λa7=>
   if a7=true then A else (C (n+1033) 435 [P1,ag u]).bind λbx=>(C (n+1033) 74 [D.int .i64 2]).bind λbz=>(C (n+1033) 352 [b0,bz]).bind λbY=>(C (n+1033) 173 [bx,bY]).bind λb3=>B b3 a3)=Y:=by
  intro R u L α K S A B Y e h0 hA hB;rw[e1,e2];subst ax aI;rw[an] at hB;exact WS n h (L u j2) h0 (λp hp=>RY h (λw hw=>L w (List.mem_append_left _ hw)) p (by rw[e];exact hp)) hA hB
 obtain⟨rws,c0⟩:∃ rws:Nat->List V,rws=λk=>if k=0 then[] else if k=1 then NQ q F else NQ q F++(NQ r G).map V.neg:=⟨_,rfl⟩
 have data:∀ k,k<2->∃ (xk:V) (Z:Nat->Int) (lk:List V) (Fk:FL) (Ek:List (Nat×Nat)),[P1,P2][k]?=some (jB xk Z lk)/\pe Z/\Fac lk Fk Ek/\rws (k+1)=rws k++Fk.map λf=>R5 k (aS (pF Z f.1.1)):=λk hk=>by
  have:k=0\/k=1:=u0
  rcases this with rfl|rfl
  ·exact⟨x,q,l,F,E,by rw[e1];rfl,h.pa.hq,hl,by rw[c0];rfl⟩
  ·exact⟨y,r,m,G,E',by rw[e2];rfl,h.pb.hq,hm,by rw[c0];simp[NQ,R5]⟩
 have sub:∀ k,k<=2->∀ w∈rws k,w∈FD q r l m F G E E':=λk hk w hw=>by
  have:k=0\/k=1\/k=2:=u0
  rw[c0] at hw;rcases this with rfl|rfl|rfl
  ·cases hw
  ·exact List.mem_append_left _ (List.mem_append_left _ hw)
  ·exact List.mem_append_left _ hw
 refine cH (λk s=>s=[.sl [P1,P2],I (k:Int),JL,P1,P2,jV dp (gn x y q r l m (rws k)).2,je (gn x y q r l m (rws k)).2,.bool (gn x y q r l m (rws k)).2.isSome,.sl ((gn x y q r l m (rws k)).1.map mv)]) 2 0 (zoa _) (by rw[c0];rfl) (λk hk s c=>?_) (λs c=>?_)
 ·subst c;left;obtain⟨xk,Z,lk,Fk,Ek,d1,d2,d3,d4⟩:=data k hk;have M:=sub (k+1) u0
  rw[d4] at M ⊢;refine⟨_,?_,rfl⟩;refine O ah (O ac (au (by show(k:Int)<2;omega) (O (z:=k) (aj hk) (O d1 (J (bw lk) (O (d3.h18 (n+1025)) (J (aU Fk) ?_)))))))
  obtain⟨g,hg⟩:∃ g:(V×Int)×List Nat->V,g=λf=>R5 k (aS (pF Z f.1.1)):=⟨_,rfl⟩;rw[<-hg] at M ⊢;refine cH (λi s=>s=[.sl [P1,P2],I (i:Int),JL,P1,P2,jV dp (gn x y q r l m (rws k++(Fk.take i).map g)).2,je (gn x y q r l m (rws k++(Fk.take i).map g)).2,.bool (gn x y q r l m (rws k++(Fk.take i).map g)).2.isSome,.sl ((gn x y q r l m (rws k++(Fk.take i).map g)).1.map mv)]) Fk.length 0 (zoa _) (by rw[List.take_zero,zld,zVb];rfl) (λi hi s c=>?_) (λs c=>?_)
  ·subst c;left;refine⟨_,?_,rfl⟩;have hf:=d3.fb.2 _ (zGa hi);have N:=AQ d2 d3.fb (zGa hi);have hlen:=d3.fb.1;have et:(Fk.take (i+1)).map g=(Fk.take i).map g++[g Fk[i]]:=by
    rw[List.take_add_one,zda hi];simp only[Option.toList_some,zib,z4a,zld]
   have L:∀ w∈(rws k++(Fk.take i).map g)++[g Fk[i]],bd NB w:=λw hw=>by all_goals grind
   rw[et,<-zMa,app];have bdy:=@body (rws k++(Fk.take i).map g) (g Fk[i]) L;obtain⟨R,eR⟩:∃ R,rws k++(Fk.take i).map g=R:=⟨_,rfl⟩;rw[eR] at bdy ⊢;obtain⟨⟨K,S⟩,eT⟩:∃ T,gn x y q r l m R=T:=⟨_,rfl⟩;rw[eT] at bdy ⊢;obtain⟨i1,i2,i3⟩:=E4 N;refine O ah (O ac (au (by rw[bE];omega) (J (aU Fk) (O (z:=i) (by rw[bE];exact aj hi) (O (io hi) (J (gG Z) (J (ag Fk[i].1.1) ?_)))))))
   refine O (z:=ag (pF Z Fk[i].1.1)) (SS (n+1030) d2 (adM hf.1)) (O (aeq (n+1030) i1 i2 i3) (O (cN (by simp only[inR];omega)) (O (bW (by simp only[inR];omega)) ?_)))
   have gu:g Fk[i]=R5 k (aS (pF Z Fk[i].1.1)):=by rw[hg]
   rw[gu] at bdy ⊢;obtain⟨v,ev⟩:∃ v,pF Z Fk[i].1.1=v:=⟨_,rfl⟩;rw[ev] at N bdy ⊢;obtain⟨u,c1⟩:∃ u,R5 k (aS v)=u:=⟨_,rfl⟩;have hz:u=V.zero↔v=V.zero:=by rw[<-c1,Nb,ui]
   obtain⟨Pk,a8⟩:∃ Pk,jB xk Z lk=Pk:=⟨_,rfl⟩;rw[a8];refine O (z:=(0,[.bool true,JL,P1,P2,jV dp (mN o d (K,S) u).2,je (mN o d (K,S) u).2,.bool (mN o d (K,S) u).2.isSome,P1,P2,.sl ((mN o d (K,S) u).1.map mv),Pk])) ?_ (J (.bool false) (J false (A1 (O (aA (a:=i) (b:=1) u0) (by rw[c1];rfl)))))
   refine O (Xi (n+3) N) (J (ag (aS v)) (J (I (if v=V.zero then 31 else 0)) (O (z:=(0,[JL,P1,P2,jV dp S,je S,.bool S.isSome,P1,P2,.sl (K.map mv),Pk,ag u])) ?_ ?_)))
   ·refine O ah (O ac ?_);rw[<-c1];by_cases hk2:1-2*(k:Int)<0
    ·refine au hk2 (O (QL (n+1032) (fJ N) H) ?_)
     rw[show R5 k (aS v)=(aS v).neg from zla hk2];rfl
    ·refine aB hk2 ?_;rw[show R5 k (aS v)=aS v from zia hk2];rfl
   rw[c1] at bdy;refine V6 hz (K:=K) rfl rfl rfl (λc=>?_) (λc=>?_)
   ·rw[show mN o d (K,S) u=(K,S) from zla c];rfl
   ·rw[show mN o d (K,S) u=(K++[u],ki o d S u) from zia c];have t:=sC K u (λhh=>c (.inr hh));refine O (z:=(0,[jV dp (ki o d S u),je (ki o d S u),.bool (ki o d S u).isSome,P1,P2,.sl ((K++[u]).map mv),Pk])) ?_ rfl;refine bdy rfl (λhh=>c (.inl hh)) (λe=>?_) (λe=>?_)
    ·rw[e,<-t];rfl
    ·rw[e,<-t];rfl
  ·subst c;refine⟨_,O ah (O ac (aB (by rw[bE];omega) rfl)),?_⟩
   rw[zub (zja _)];exact Rb (O (aA (a:=k) (b:=1) u0) rfl)
 ·subst c;refine⟨_,O ah (O ac (aB H rfl)),Rb ?_⟩
  rw[show rws 2=NQ q F++(NQ r G).map V.neg by rw[c0];rfl] at *
  obtain⟨R0,c3⟩:∃ R0,NQ q F++(NQ r G).map V.neg=R0:=⟨_,rfl⟩;have ba:gn x y q r l m (R0++E.flatMap (NW q r l m E'))=T:=by rw[<-hT,<-c3];rfl
  have a9:∀ u∈R0++E.flatMap (NW q r l m E'),bd NB u:=by rw[<-c3];exact hR
  have b6:=hl.el;have b7:=hm.el;have g1:C (n+1033) 449 [P1]=some (.sl (E.map λe=>ag (ru q l e))):=by rw[e1];exact Xj (n+1023) h.pa h.la hl
  have g2:C (n+1033) 449 [P2]=some (.sl (E'.map λe=>ag (ru r m e))):=by rw[e2];exact Xj (n+1023) h.pb h.lb hm
  rw[c3];refine O g2 (O g1 (J (E.map λe=>ag (ru q l e)) ?_));refine cH (λi s=>s=[I (i:Int),JL,P1,P2,jV dp (gn x y q r l m (R0++(E.take i).flatMap (NW q r l m E'))).2,je (gn x y q r l m (R0++(E.take i).flatMap (NW q r l m E'))).2,.bool (gn x y q r l m (R0++(E.take i).flatMap (NW q r l m E'))).2.isSome,.sl ((gn x y q r l m (R0++(E.take i).flatMap (NW q r l m E'))).1.map mv)]) E.length 0 (zoa _) (by rw[List.take_zero,List.flatMap_nil,zVb];rfl) (λi hi s c=>?_) (λs c=>?_)
  ·subst c;left;refine⟨_,?_,rfl⟩;have he:=hl.lt E[i] (zGa hi);have W:=AK h.pa.hq h.la he;rw[y9 _ hi,<-zMa];obtain⟨R1,ad⟩:∃ R1,R0++(E.take i).flatMap (NW q r l m E')=R1:=⟨_,rfl⟩;have U:∀ u∈R1++NW q r l m E' E[i],bd NB u:=λu hu=>a9 u (by
    rw[<-ad,zMa] at hu;rcases zKa.1 hu with hu|hu
    ·exact List.mem_append_left _ hu
    ·refine z9a _ ?_;rcases zKa.1 hu with hu|hu
     ·obtain⟨a,ha,L⟩:=zqb.1 hu;exact zqb.2 ⟨a,zSa ha,L⟩
     ·exact zqb.2 ⟨_,zGa hi,hu⟩)
   rw[ad];refine O ah (O ac (au (by rw[zka];omega) (J (E.map λe=>ag (ru q l e)) (O (z:=i) (by rw[zka];exact aj hi) (O (z:=ag (ru q l E[i])) (by simp[hi]) (J (E'.map λe=>ag (ru r m e)) ?_))))))
   obtain⟨e,ee⟩:∃ e,E[i]=e:=⟨_,rfl⟩;rw[ee] at he W U ⊢;obtain⟨c2,a1⟩:∃ c2:Nat×Nat->List V,c2=λf=>[aS (V.cross (ru q l e) (ru r m f)),(aS (V.cross (ru q l e) (ru r m f))).neg]:=⟨_,rfl⟩;rw[show NW q r l m E' e=E'.flatMap c2 by rw[a1];rfl] at U ⊢
   refine cH (λj s=>s=[I (j:Int),JL,P1,P2,jV dp (gn x y q r l m (R1++(E'.take j).flatMap c2)).2,je (gn x y q r l m (R1++(E'.take j).flatMap c2)).2,.bool (gn x y q r l m (R1++(E'.take j).flatMap c2)).2.isSome,.sl ((gn x y q r l m (R1++(E'.take j).flatMap c2)).1.map mv)]) E'.length 0 (zoa _) (by rw[List.take_zero,List.flatMap_nil,zVb];rfl) (λj hj s c=>?_) (λs c=>?_)
   ·subst c;left;refine⟨_,?_,rfl⟩;have hf:=hm.lt E'[j] (zGa hj);have aO:=AK h.pb.hq h.lb hf;rw[y9 _ hj,<-zMa];obtain⟨R,eR⟩:∃ R,R1++(E'.take j).flatMap c2=R:=⟨_,rfl⟩;have b8:∀ w∈R++c2 E'[j],bd NB w:=λw hw=>U w (by
     rw[<-eR,zMa] at hw;rcases zKa.1 hw with hw|hw
     ·exact List.mem_append_left _ hw
     ·refine z9a _ ?_;rcases zKa.1 hw with hw|hw
      ·obtain⟨a,ha,L⟩:=zqb.1 hw;exact zqb.2 ⟨a,zSa ha,L⟩
      ·exact zqb.2 ⟨_,zGa hj,hw⟩)
    rw[eR];refine O ah (O ac (au (by rw[zka];omega) (J (E'.map λe=>ag (ru r m e)) (O (z:=j) (by rw[zka];exact aj hj) (O (z:=ag (ru r m E'[j])) (by simp[hj]) (O (aes (n+1026) W aO) ?_))))))
    have N:=yR W aO;have ec:c2 E'[j]=[aS (V.cross (ru q l e) (ru r m E'[j])),(aS (V.cross (ru q l e) (ru r m E'[j]))).neg]:=by rw[a1]
    rw[ec] at b8 ⊢;obtain⟨v,ev⟩:∃ v,V.cross (ru q l e) (ru r m E'[j])=v:=⟨_,rfl⟩;rw[ev] at N b8 ⊢;obtain⟨X,eX⟩:∃ X,ag (ru q l e)=X:=⟨_,rfl⟩;rw[eX];rw[show R++[aS v,(aS v).neg]=(R++[aS v])++[(aS v).neg] by simp] at b8 ⊢
    have b1:=@body R (aS v) (λw hw=>b8 w (List.mem_append_left _ hw));have b2:=@body (R++[aS v]) (aS v).neg b8;rw[app _ (aS v).neg];obtain⟨⟨K2,S2⟩,al⟩:∃ T,gn x y q r l m (R++[aS v])=T:=⟨_,rfl⟩;have b9:=al;rw[app] at b9;rw[al] at b2 ⊢;obtain⟨⟨K,S⟩,eT⟩:∃ T,gn x y q r l m R=T:=⟨_,rfl⟩;rw[eT] at b1 b9 ⊢;have a0:=Xi (n+3) N;have bh:aS v=V.zero↔v=V.zero:=ui;have a2:(aS v).neg=V.zero↔v=V.zero:=by rw[Dr,ui]
    have bp:=fJ N;refine O (z:=(0,[.bool true,JL,P1,P2,jV dp S2,je S2,.bool S2.isSome,.sl (K2.map mv),X,gZ v])) ?_ (J (.bool false) (J false (A1 ?_)))
    ·refine O a0 (J (ag (aS v)) (J (I (if v=V.zero then 31 else 0)) (O (z:=(0,[JL,P1,P2,jV dp S,je S,.bool S.isSome,.sl (K.map mv),X,gZ v,ag (aS v)])) (O ah (O ac (aB H rfl))) ?_)))
     refine V6 bh (K:=K) rfl rfl rfl (λc=>?_) (λc=>?_)
     ·rw[show mN o d (K,S) (aS v)=(K,S) from zla c] at b9;cases b9;rfl
     ·rw[show mN o d (K,S) (aS v)=(K++[aS v],ki o d S (aS v)) from zia c] at b9;have t:=sC K (aS v) (λhh=>c (.inr hh));obtain⟨rfl,rfl⟩:=Prod.mk.inj b9;refine O (z:=(0,[jV dp (ki o d S (aS v)),je (ki o d S (aS v)),.bool (ki o d S (aS v)).isSome,.sl ((K++[aS v]).map mv),X,gZ v])) ?_ rfl;refine b1 rfl (λhh=>c (.inl hh)) (λe=>?_) (λe=>?_)
      ·rw[e,<-t];rfl
      ·rw[e,<-t];rfl
    ·obtain⟨u,c1⟩:∃ u,(aS v).neg=u:=⟨_,rfl⟩;rw[c1] at a2 b2 ⊢;refine O (z:=(0,[.bool true,JL,P1,P2,jV dp (mN o d (K2,S2) u).2,je (mN o d (K2,S2) u).2,.bool (mN o d (K2,S2) u).2.isSome,.sl ((mN o d (K2,S2) u).1.map mv),X])) ?_ (J (.bool false) (J false (A1 (O (aA (a:=j) (b:=1) u0) rfl))))
     refine O a0 (J (ag (aS v)) (J (I (if v=V.zero then 31 else 0)) (O (z:=(0,[JL,P1,P2,jV dp S2,je S2,.bool S2.isSome,.sl (K2.map mv),X,ag u])) (O ah (O ac (au H (O (QL (n+1032) bp H) (by rw[c1];rfl))))) ?_)))
     refine V6 a2 (K:=K2) rfl rfl rfl (λc=>?_) (λc=>?_)
     ·rw[show mN o d (K2,S2) u=(K2,S2) from zla c];rfl
     ·rw[show mN o d (K2,S2) u=(K2++[u],ki o d S2 u) from zia c];have t:=sC K2 u (λhh=>c (.inr hh));refine O (z:=(0,[jV dp (ki o d S2 u),je (ki o d S2 u),.bool (ki o d S2 u).isSome,.sl ((K2++[u]).map mv),X])) ?_ rfl;refine b2 rfl (λhh=>c (.inl hh)) (λe=>?_) (λe=>?_)
      ·rw[e,<-t];rfl
      ·rw[e,<-t];rfl
   ·subst c;refine⟨_,O ah (O ac (aB (by rw[zka];omega) rfl)),?_⟩
    rw[zub (zja _)];exact Rb (O (aA (a:=i) (b:=1) u0) rfl)
  ·subst c;refine⟨_,O ah (O ac (aB (by rw[zka];omega) rfl)),?_⟩
   rw[zub (zja _),ba];exact Rb rfl
end
section
variable{a y:Rat}
def X3(x y:Rat):Rat:=if x<y then y else x
def Wt(h:Pth)(N:V)(ts:Nat->Rat)(v:V):Nat->Rat->Rat
 | 0,a=>a
 | k+1,a=>X3 (Wt h N ts v k a) (Yf h N v (ts k))
def U5(h:Pth)(N:V)(ts:Nat->Rat)(l:List V):Rat:=l.foldl (λa v=>Wt h N ts v 3 a) (Yf h N (l.headD V.zero) (ts 0))
def X5(x y:Rat):IK (some x) (some y)=some (X3 x y):=by rw[Be];unfold X3;split<;>rfl
def X4{x:Rat}{a k:Nat}(h1:eO x a k)(b:eO y a k):eO (X3 x y) a k:=by unfold X3;split<;>assumption
section
variable{h:Pth}(hh:h.Ok){N:V}(hN:∀ i,i<3->(aX N i).natAbs<=2^61){ts:Nat->Rat}(ht:∀ k,k<3->Tm (ts k))
include hh hN ht
theorem LQ{v:V}(c:bd 4096 v)(d:eO a 159 80):∀ k,k<=3->JS h N ts v k (some a)=some (Wt h N ts v k a)/\eO (Wt h N ts v k a) 159 80
 | 0,_=>⟨rfl,d⟩
 | k+1,hk=>by
  obtain⟨e,b⟩:=LQ c d k u0
  have s:=M8 hh hN c (ht k u0)
  refine⟨?_,X4 b (Yg hh hN c (ht k u0))⟩
  show IK (JS h N ts v k (some a)) (TE h N v (ts k))=_;rw[e,s,X5];rfl
theorem LX:∀ (l:List V),(∀ v∈l,bd 4096 v)->∀ {a:Rat},eO a 159 80->l.foldl (λa v=>JS h N ts v 3 a) (some a)=some (l.foldl (λa v=>Wt h N ts v 3 a) a)/\eO (l.foldl (λa v=>Wt h N ts v 3 a) a) 159 80
 | [],_,a,c=>⟨rfl,c⟩
 | v::l,hl,a,c=>by
  obtain⟨e,b⟩:=LQ hh hN ht (hl v j2) c 3 (zja _)
  obtain⟨f,d⟩:=LX l (λw hw=>hl w (by simp[hw])) b
  simp_all
def AX{l:List V}(hl:∀ v∈l,bd 4096 v)(h0:0<l.length):Zq h N ts l=some (U5 h N ts l)/\eO (U5 h N ts l) 159 80:=by
 have c:bd 4096 (l.headD V.zero):=by
  cases l with
  | nil=>exact zgb h0 H
  | cons a b=>exact hl a j2
 unfold Zq U5;rw[M8 hh hN c (ht 0 H)]
 exact LX hh hN ht l hl (Yg hh hN c (ht 0 H))
end
def nZ(d:Duo)(N:V)(w:Option Rat)(a t:Rat):Bool:=FS N&&(decide (N≠V.zero)&&match w with|none=>false|some q=>yv d N q a t)
def Xk(n:Nat){d:Duo}(c:d.Ok){N:V}{w:Option Rat}(hw:OW w)(e:∀ q,w=some q->q.num.natAbs<=2^179/\q.den<=2^80){t:Rat}(ht:TwOk a t) :
  C (n+1037) 483 [lC N (bH w),d.a.enc,bw d.l,d.b.enc,bw d.m,av a,av t]=some (.bool (nZ d N w a t)):=by
 rw[YA];delta Ki qT Jn J1 bF qe Z qn;unfold nZ;cases w with
 | none=> refine O (GF (n+5) (g:=false) (gJ (n+5) (a:=none) hw)) ?_;simp only[Bool.and_false];rfl
 | some q=>
  refine O (GF (n+5) (g:=true) (nl (n+5) (hw q rfl))) ?_;cases h1:FS N with
  | false=>rfl
  | true=>
   by_cases h2:N≠V.zero
   ·have hk:PlnOk N q:=⟨λi hi=>Nk h1 hi,(e q rfl).1,(e q rfl).2⟩;rw[zna h2];refine O aJ (O ac ?_);refine(zia H).trans ?_
    refine O (QI n c.a c.l c.ll hk ht (z:=-1) (.inr rfl)) (O ac (O (z:=yv d N q a t) ?_ rfl));unfold yv;cases h3:oS d.a d.l N q a t (-1) with
    | false=>rfl
    | true=>exact(zla rfl).trans (O (QI n c.b c.m c.lm hk ht (z:=1) (.inl rfl)) ac)
   ·rw[zfa h2];rfl
structure Dd where
 d:Duo
 F:FL
 E:List (Nat×Nat)
 G:FL
 E':List (Nat×Nat)
structure Dd.Ok(e:Dd):Prop where
 d:e.d.Ok
 l0:0<e.d.l.length
 m0:0<e.d.m.length
 l1:e.d.l.length<=10
 m1:e.d.m.length<=10
 l:Fac e.d.l e.F e.E
 m:Fac e.d.m e.G e.E'
def Fq(e:Dd)(t:Rat):Option (V×Rat):=
 (gn (Fx e.d.a t) (Fx e.d.b t) (nQ (mF e.d.a t)) (nQ (mF e.d.b t)) e.d.l e.d.m (FD (nQ (mF e.d.a t)) (nQ (mF e.d.b t)) e.d.l e.d.m e.F e.G e.E e.E')).2
def yr(e:Dd)(N:V)(ts:Nat->Rat):Option Rat:=FR (U5 e.d.a N ts e.d.l) (-(U5 e.d.b N.neg ts e.d.m))
def SB(e:Dd)(ts:Nat->Rat)(a t:Rat)(k:Nat):Option (V×Option Rat):=
 match Fq e (ts k) with
 | none=>none
 | some p=>if nZ e.d p.1 (yr e p.1 ts) a t=true then some (p.1,yr e p.1 ts) else none
def HA{e:Dd}(he:e.Ok){t:Rat}(ht:Tm t):PairOk (Fx e.d.a t) (Fx e.d.b t) (nQ (mF e.d.a t)) (nQ (mF e.d.b t)) e.d.l e.d.m:=
 ⟨MM he.d.a ht,MM he.d.b ht,he.d.l,he.d.m,he.l0,he.m0,he.d.ll,he.d.lm,he.l1,he.m1⟩
def Tv{e:Dd}(he:e.Ok){t:Rat}(ht:Tm t){p:V×Rat}(h:Fq e t=some p):bd NB p.1/\p.1≠V.zero:=by obtain⟨h1,a,_,_⟩:=(HK _).2 p h;exact⟨HF (HA he ht) he.l he.m _ h1,a⟩
theorem yC{N:V}(h:bd NB N):∀ i,i<3->(aX N i).natAbs<=2^61:=λi hi=>by have:=ls h hi;grind [NB]
def Tx{e:Dd}(he:e.Ok){N:V}(hN:bd NB N){ts:Nat->Rat}(ht:∀ k,k<3->Tm (ts k)):eO (U5 e.d.a N ts e.d.l) 159 80/\eO (-(U5 e.d.b N.neg ts e.d.m)) 159 80:=
 ⟨(AX he.d.a (yC hN) ht he.d.l he.l0).2,eO.neg (AX he.d.b (yC (mC hN)) ht he.d.m he.m0).2⟩
def Hw{e:Dd}(he:e.Ok){N:V}(hN:bd NB N){ts:Nat->Rat}(ht:∀ k,k<3->Tm (ts k)):∀ q,yr e N ts=some q->eO q 159 80:=λq hq=>by obtain⟨b1,b2⟩:=Tx he hN ht;obtain⟨_,_,a,_,b⟩:=Se hq;refine⟨zva b (Nat.max_le.2 ⟨b1.1,b2.1⟩),zva a b1.2⟩
end
section
variable{j:Nat}{a:Rat}
def Dy(j:Nat)(t:Rat):Prop:=∃ k:Int,0<=k/\k<=((2^j:Nat):Int)/\t=Rat.divInt k ((2^j:Nat):Int)
def dT(a t:Rat):Rat:=(a+t)*Rat.divInt 1 2
def Tz(j:Nat):(((2^j:Nat):Int):Rat)≠0:=by
 have:=zCa j;intro h;have:((2^j:Nat):Int)=0:=by exact_mod_cast h
 omega
theorem Dy.mul{t:Rat}(h:Dy j t):∃ k:Int,0<=k/\k<=((2^j:Nat):Int)/\t*(((2^j:Nat):Int):Rat)=(k:Rat):=by obtain⟨k,a,b,e⟩:=h;have:=Tz j;grind [Rat.divInt_eq_div]
theorem Dy.tm(c:j<=20){t:Rat}(h:Dy j t):Tm t:=by
 obtain⟨k,a,b,e⟩:=h.mul;have p:=zCa j;have pp:(0:Rat)<(((2^j:Nat):Int):Rat):=Rat.intCast_lt_intCast (a:=0) |>.2 u0
 have ka:=Rat.intCast_le_intCast (a:=0) |>.2 a;have kb:=Rat.intCast_le_intCast.2 b;refine⟨?_,?_,?_⟩
 ·by_cases h0:0<=t
  ·exact h0
  ·have:0<(-t)*(((2^j:Nat):Int):Rat):=Rat.mul_pos s6 pp
   grind
 ·by_cases h0:t<=1
  ·exact h0
  ·have:0<(t-1)*(((2^j:Nat):Int):Rat):=Rat.mul_pos s6 pp
   grind
 ·obtain⟨k,_,_,e⟩:=h;have:t.den<=2^j:=by
   rw[e];have:=(gv k (d:=((2^j:Nat):Int)) u0).2
   rwa [zha] at this
  exact zva this (zqa H c)
theorem Dy.zero:Dy 0 0:=⟨0,H,H,by rw[Rat.zero_divInt]⟩
def Dy.one:Dy 0 1:=⟨1,H,H,H⟩
def E1:Rat.divInt 1 2*2=1:=by decide +kernel
theorem Dy.eq{t:Rat}{k:Int}(h:t*(((2^j:Nat):Int):Rat)=(k:Rat)):t=Rat.divInt k ((2^j:Nat):Int):=by have:=Tz j;grind [Rat.divInt_eq_div]
theorem TA(j:Nat):(((2^(j+1):Nat):Int):Rat)=2*(((2^j:Nat):Int):Rat):=by grind
theorem Dy.mid{t:Rat}(b:Dy j a)(ht:Dy j t):Dy (j+1) (dT a t):=by
 obtain⟨k,a1,a2,c⟩:=b.mul;obtain⟨m,b1,b2,d⟩:=ht.mul;have:=TA j;have:=E1;have p:((2^(j+1):Nat):Int)=2*((2^j:Nat):Int):=by rw[Nat.pow_succ'];omega
 refine⟨k+m,u0,u0,Dy.eq ?_⟩
 rw[ju];unfold dT;grind
theorem Dy.up{t:Rat}(h:Dy j t):Dy (j+1) t:=by
 obtain⟨k,a1,a2,a⟩:=h.mul;have:=TA j;have p:((2^(j+1):Nat):Int)=2*((2^j:Nat):Int):=by rw[Nat.pow_succ'];omega
 refine⟨2*k,u0,u0,Dy.eq ?_⟩
 grind
theorem Bg(r:j<=15){t:Rat}(b:Dy j a)(ht:Dy j t):Vx (some a) (some t)=some (dT a t):=by
 have A:=b.tm u0;have B:=ht.tm u0
 have c:eO a 20 20:=⟨A.n,A.d⟩;have bb:eO t 20 20:=⟨B.n,B.d⟩;have g:eO (a+t) 40 20:=by
  obtain⟨k,a1,a2,l⟩:=b.mul;obtain⟨m,b1,b2,o⟩:=ht.mul;have e:a+t=Rat.divInt (k+m) ((2^j:Nat):Int):=Dy.eq (by rw[ju];grind)
  rw[e];have p:2^j<=2^20:=zqa H u0
  have q:=zCa j;have h:(2:Nat)^20=1048576:=rfl;have i:(2:Nat)^40=1099511627776:=rfl;exact eG u0 (c8 p) u0
 have f:eO (Rat.divInt 1 2) 1 1:=eG H H H
 unfold Vx;rw[iZ (c.fitA bb),nP (g.fitM f)];rfl
def tN{α:Type}(g:Nat->Option α):Nat->Option α
 | 0=>none
 | k+1=>(tN g k).or (g k)
theorem G8{α:Type}{g:Nat->Option α}{x:α}:∀ {k m:Nat},k<=m->tN g k=some x->tN g m=some x
 | k,0,h,e=>by simp_all
 | k,m+1,h,e=>by
  by_cases hk:k=m+1
  ·simp_all
  ·show(tN g m).or (g m)=some x;rw[G8 u0 e];rfl
def NU(a t:Rat)(k:Nat):Rat:=if k=0 then dT a t else if k=1 then a else t
def BU(e:Dd)(a t:Rat):Option (V×Option Rat):=tN (SB e (NU a t) a t) 3
def ZK:D:=(D.st [(D.st [(D.int .i64 0),(D.int .i64 0),(D.int .i64 0)]),(D.st [(D.st [(D.bool false),(D.bool false),(az bf)]),(D.st [(D.bool false),(D.bool false),(az bf)])])])
def XD:Option (V×Option Rat)->D
 | none=>.tup [ZK,.bool false]
 | some x=>.tup [lC x.1 (bH x.2),.bool true]
def TJ{j:Nat}(c:j<=15){t:Rat}(b:Dy j a)(ht:Dy j t):∀ k,k<3->Tm (NU a t k):=λk _=>by
 unfold NU;split
 ·exact(b.mid ht).tm u0
 ·split
  ·exact b.tm u0
  ·exact ht.tm u0
theorem bex{α β:Type}{x:Option α}{R:α->Prop}{K:α->Option β}{y:Option β}(h:∃ r,x=some r/\R r)(hk:∀ r,R r->K r=y):x.bind K=y:=by grind
def aev(n:Nat){e:Dd}(he:e.Ok){j:Nat}(F:j<=15){t:Rat}(v:Dy j a)(ht:Dy j t) :
  C (n+1545) 476 [e.d.a.enc,bw e.d.l,e.d.b.enc,bw e.d.m,av a,av t]=some (XD (BU e a t)):=by
 have tm:=TJ F v ht;have A:=v.tm (j:=j) u0;have B:=ht.tm (j:=j) u0
 have R:=A.t.i;have L:=B.t.i;have hm:C (n+1544) 485 [av a,av t]=some (av (NU a t 0)):=by have:=Uq (n+511) (a:=some a) (b:=some t) (aH R) (aH L);rw[Bg F v ht] at this;exact this
 have P:TwOk a t:=⟨A.n,A.d,B.n,B.d⟩;rw[agP];delta Pw Q iL iR J0 J3 bF bT qb qc qf qi qj Z qn qp qt qy;refine O hm ?_;obtain⟨T,hT⟩:∃ T,T=D.st [av (NU a t 0),av a,av t]:=⟨_,rfl⟩;have h:LB (NU a t)=T:=by rw[hT];rfl
 have o:∀ {k},k<3->D.fld T k=some (av (NU a t k)):=λhk=>by rw[<-h];exact Kx hk
 rw[<-hT];obtain⟨ts,a0⟩:∃ ts,ts=NU a t:=⟨_,rfl⟩;unfold BU;rw[<-a0] at tm h o ⊢;obtain⟨g,E⟩:∃ g,g=SB e ts a t:=⟨_,rfl⟩;rw[<-E];refine bex (ss  (λi s=>s=[I (i:Int),e.d.a.enc,bw e.d.l,e.d.b.enc,bw e.d.m,av a,av t,ZK,.bool false]/\tN g i=none)
  (λr=>r=match tN g 3 with
   | some x=>(0,[e.d.a.enc,bw e.d.l,e.d.b.enc,bw e.d.m,av a,av t,lC x.1 (bH x.2),.bool true])
   | none=>(1,[e.d.a.enc,bw e.d.l,e.d.b.enc,bw e.d.m,av a,av t,ZK,.bool false])) 3 0 (zoa _) ⟨rfl,rfl⟩ (λi hi s u=>?_) (λs u=>?_)) (λr G=>?_)
 rotate_left;rotate_left
 ·rw[G];cases tN g 3 with
  | none=>rfl
  | some x=>rfl
 ·obtain⟨y,hn⟩:=u;subst y;have X:=HA he (tm i hi);have step:tN g (i+1)=g i:=by show(tN g i).or (g i)=_;rw[hn];rfl
  have f:g i=match Fq e (ts i) with|none=>none|some p=>if nZ e.d p.1 (yr e p.1 ts) a t=true then some (p.1,yr e p.1 ts) else none:=by rw[E];rfl
  have c:=Un (n+510) X he.l he.m;cases hv:Fq e (ts i) with
  | none=>
   rw[hv] at f;left;refine⟨[I ((i+1:Nat):Int),e.d.a.enc,bw e.d.l,e.d.b.enc,bw e.d.m,av a,av t,ZK,.bool false],?_,rfl,by rw[step];exact f⟩
   unfold Fq at hv;rw[hv] at c;refine O ah (O ac (au (by show(i:Int)<3;omega) (O (z:=(0,[e.d.a.enc,bw e.d.l,e.d.b.enc,bw e.d.m,av a,av t,ZK,.bool false,T])) ?_ ((zla rfl).trans (O (aA (a:=i) (b:=1) u0) rfl)))))
   refine O (aj hi) (O (o hi) (O (If (n+510) he.d.a (tm i hi)) (O (If (n+510) he.d.b (tm i hi)) (O c (J JL (J (.bool false) (O aJ (O ac rfl))))))))
  | some p=>
   rw[hv] at f;obtain⟨pb,p0⟩:=Tv he (tm i hi) hv;obtain⟨M,a1⟩:=Tx he pb tm;have few:=Hw he pb tm;have G1:=Xm (n+509) he.d.a (yC pb) he.d.l ⟨he.l0,he.d.ll⟩ (ts:=ts) (λk hk=>(tm k hk).t);have G2:=Xm (n+509) he.d.b (yC (mC pb)) he.d.m ⟨he.m0,he.d.lm⟩ (ts:=ts) (λk hk=>(tm k hk).t);rw[(AX he.d.a (yC pb) tm he.d.l he.l0).1,h] at G1;have g2:=AX he.d.b (yC (mC pb)) tm he.d.m he.m0;rw[g2.1,h] at G2;have S:=aez n (M.mono H H) (a1.mono H H)
   have K:=Xk (n+507) he.d (N:=p.1) (w:=yr e p.1 ts) (λq hq=>eO.inR (few q hq) H H) (λq hq=>⟨zva (few q hq).1 (zqa H H),(few q hq).2⟩) P
   unfold Fq at hv;rw[hv] at c;cases hb:nZ e.d p.1 (yr e p.1 ts) a t with
   | true=>
    rw[hb] at K;right;refine⟨(0,[e.d.a.enc,bw e.d.l,e.d.b.enc,bw e.d.m,av a,av t,lC p.1 (bH (yr e p.1 ts)),.bool true]),?_,?_⟩
    rotate_left
    ·rw[G8 (k:=i+1) (m:=3) u0 (step.trans (f.trans (by simp only[hb];rfl)))]
    refine O ah (O ac (au (by show(i:Int)<3;omega) (O (z:=(1,[e.d.a.enc,bw e.d.l,e.d.b.enc,bw e.d.m,av a,av t,lC p.1 (bH (yr e p.1 ts)),.bool true])) ?_ rfl)))
    refine O (aj hi) (O (o hi) (O (If (n+510) he.d.a (tm i hi)) (O (If (n+510) he.d.b (tm i hi)) (O c (J _ (J (.bool true) (O aJ (O ac ?_))))))));refine(zia H).trans (J (ag p.1) (J (ag p.1) (O G1 (J (ag p.1) (O (QL (n+1543) pb H) (O G2 (O (ED (n+513) (g2.2.inR H H)) (O S (O K (O ac rfl))))))))))
   | false=>
    rw[hb] at K;left;refine⟨[I ((i+1:Nat):Int),e.d.a.enc,bw e.d.l,e.d.b.enc,bw e.d.m,av a,av t,ZK,.bool false],?_,rfl,by rw[step,f];simp only[hb];rfl⟩
    refine O ah (O ac (au (by show(i:Int)<3;omega) (O (z:=(0,[e.d.a.enc,bw e.d.l,e.d.b.enc,bw e.d.m,av a,av t,ZK,.bool false,T])) ?_ ((zla rfl).trans (O (aA (a:=i) (b:=1) u0) rfl)))))
    refine O (aj hi) (O (o hi) (O (If (n+510) he.d.a (tm i hi)) (O (If (n+510) he.d.b (tm i hi)) (O c (J _ (J (.bool true) (O aJ (O ac ?_))))))));refine(zia H).trans (J (ag p.1) (J (ag p.1) (O G1 (J (ag p.1) (O (QL (n+1543) pb H) (O G2 (O (ED (n+513) (g2.2.inR H H)) (O S (O K (O ac rfl))))))))))
 ·obtain⟨y,hn⟩:=u;subst y;refine⟨_,O ah (O ac (aB H rfl)),?_⟩
  rw[hn];rfl
end
structure Pie where
 t:Rat
 N:V
 w:Option Rat
def Pie.enc(p:Pie):D:=.st [av p.t,lC p.N (bH p.w)]
def cl(e:Dd):Nat->Rat->Rat->Option (List Pie)
 | 0,a,t=>match BU e a t with
  | some x=>some [⟨t,x.1,x.2⟩]
  | none=>none
 | k+1,a,t=>match BU e a t with
  | some x=>some [⟨t,x.1,x.2⟩]
  | none=>match cl e k a (dT a t) with
   | none=>none
   | some l=>match cl e k (dT a t) t with
    | none=>none
    | some m=>some (l++m)
def S7:Option (List Pie)->D
 | none=>.tup [.sl [],.bool false]
 | some l=>.tup [.sl (l.map Pie.enc),.bool true]
theorem lu(e:Dd):∀ (k:Nat) {a t:Rat} {l:List Pie},cl e k a t=some l->l.length<=2^k
 | 0,a,t,l,h=>by grind [cl]
 | k+1,a,t,l,h=>by
  have p:=zCa k;have s:2^(k+1)=2*2^k:=Nat.pow_succ';unfold cl at h;cases hx:BU e a t with
  | some x=>rw[hx] at h;cases h;show 1<=_;omega
  | none=>
   rw[hx] at h;cases h1:cl e k a (dT a t) with
   | none=>simp only[h1] at h;cases h
   | some l1=>
    simp only[h1] at h;cases h2:cl e k (dT a t) t with
    | none=>simp only[h2] at h;cases h
    | some b=> simp only[h2] at h;cases h;have a1:=lu e k h1;have a2:=lu e k h2;grind
theorem Up{e:Dd}(he:e.Ok):∀ (k n:Nat) {j:Nat},j+k<=15->∀ {a t:Rat},Dy j a->Dy j t ->
  C (n+1546+k) 479 [e.d.a.enc,bw e.d.l,e.d.b.enc,bw e.d.m,av a,av t,I (k:Int)]=some (S7 (cl e k a t))
 | k,n,j,o,a,t,f,ht=>by
  have T:=aev (n+k) he (j:=j) u0 f ht
  have A:=f.tm (j:=j) u0;have B:=ht.tm (j:=j) u0
  have hm:C (n+k+1545) 485 [av a,av t]=some (av (dT a t)):=by have:=Uq (n+k+512) (a:=some a) (b:=some t) (aH A.t.i) (aH B.t.i);rw[Bg u0 f ht] at this;exact this
  rw[show n+1546+k=(n+k+1545)+1 by omega,agQ];delta Px P qS J0 J1 bF bT qc Z qn qp qt qu
  refine O T ?_;cases hx:BU e a t with
  | some x=>
   have c:cl e k a t=some [⟨t,x.1,x.2⟩]:=by cases k<;>(unfold cl;rw[hx])
   rw[c];exact J (lC x.1 (bH x.2)) (J (.bool true) (O ac rfl))
  | none=>
   refine J ZK (J (.bool false) (O ac ((zia H).trans (O ja (O ac ?_)))))
   cases k with
   | zero=>
    have c:cl e 0 a t=none:=by unfold cl;rw[hx]
    rw[c];exact au H rfl
   | succ k=>
    refine aB u0 (O hm (O (z:=I (k:Int)) (by rw[show(I (k:Int))=I (((k+1:Nat):Int)-1) by congr 1;omega];exact bW (b:=1) (by simp only[inR];omega)) ?_))
    have C1:=Up he k n (j:=j+1) u0 (a:=a) (t:=dT a t) f.up (f.mid ht)
    have C2:=Up he k n (j:=j+1) u0 (a:=dT a t) (t:=t) (f.mid ht) ht.up
    rw[show n+1546+k=n+(k+1)+1545 by omega] at C1 C2
    refine O C1 ?_;cases h1:cl e k a (dT a t) with
    | none=>
     have c:cl e (k+1) a t=none:=by unfold cl;rw[hx];simp only[h1]
     rw[c];exact J (.sl []) (J [] (J (.bool false) (O aJ (O ac rfl))))
    | some l1=>
     refine J (.sl (l1.map Pie.enc)) (J (l1.map Pie.enc) (J (.bool true) (O aJ (O ac ((zia H).trans (O (z:=I (k:Int)) (by rw[show(I (k:Int))=I (((k+1:Nat):Int)-1) by congr 1;omega];exact bW (b:=1) (by simp only[inR];omega)) (O C2 ?_)))))))
     cases h2:cl e k (dT a t) t with
     | none=>
      have c:cl e (k+1) a t=none:=by unfold cl;rw[hx];simp only[h1,h2]
      rw[c];exact J (.sl []) (J [] (J (.bool false) (O aJ (O ac rfl))))
     | some g=>
      have c:cl e (k+1) a t=some (l1++g):=by unfold cl;rw[hx];simp only[h1,h2]
      rw[c];have a1:=lu e k h1;have a2:=lu e k h2;have p:2^k<=2^15:=zqa H u0
      have h:(2:Nat)^15=32768:=rfl;refine J (.sl (g.map Pie.enc)) (J (g.map Pie.enc) (J (.bool true) (O aJ (O ac ((zia H).trans ((zla (by rw[zka,zka];omega)).trans ?_))))))
      show some (D.tup [D.sl (l1.map Pie.enc++g.map Pie.enc),.bool true])=some (D.tup [D.sl ((l1++g).map Pie.enc),.bool true])
      simp_all
def tj(e:Dd)(x y:V)(q r:Nat->Int):Bool:=(gn x y q r e.d.l e.d.m (FD q r e.d.l e.d.m e.F e.G e.E e.E')).2.isSome
def uF(e:Dd)(dp:Int):Int×List Pie:=
 if dp<0\/12<dp then(1,[]) else
 if tj e e.d.a.x0 e.d.b.x0 e.d.a.q0 e.d.b.q0=true/\tj e e.d.a.x1 e.d.b.x1 e.d.a.q1 e.d.b.q1=true then
  match cl e dp.toNat 0 1 with
  | none=>(160,[])
  | some l=>(0,l)
 else(150,[])
def XA(r:Int×List Pie):D:=.tup [.sl (r.2.map Pie.enc),I r.1]
def aeu(n:Nat){e:Dd}(he:e.Ok){dp:Int}(c:inR dp):C (n+1559) 474 [e.d.a.enc,bw e.d.l,e.d.b.enc,bw e.d.m,I dp]=some (XA (uF e dp)):=by
 rw[agO];delta Pv Q qC qN qS Jn J0 J1 qO qh Z qn qp qz;refine O ah (O ac (O (z:=decide (dp<0\/12<dp)) ?_ (O ac ?_)))
 ·by_cases h:dp<0
  ·simp_all
  ·refine aB h (O cn (ac.trans ?_));grind
 unfold uF;by_cases h:dp<0\/12<dp
 ·rw[zla h];exact au h rfl
 rw[zia h];have P0:PairOk e.d.a.x0 e.d.b.x0 e.d.a.q0 e.d.b.q0 e.d.l e.d.m:=⟨he.d.a.p0,he.d.b.p0,he.d.l,he.d.m,he.l0,he.m0,he.d.ll,he.d.lm,he.l1,he.m1⟩;have P1:PairOk e.d.a.x1 e.d.b.x1 e.d.a.q1 e.d.b.q1 e.d.l e.d.m:=⟨he.d.a.p1,he.d.b.p1,he.d.l,he.d.m,he.l0,he.m0,he.d.ll,he.d.lm,he.l1,he.m1⟩;have S0:=Un (n+524) P0 he.l he.m;have S1:=Un (n+524) P1 he.l he.m;refine aB h (J (dW e.d.a.x0 e.d.a.q0) (J (dW e.d.b.x0 e.d.b.q0) (O S0 (J _ (J (.bool (tj e e.d.a.x0 e.d.b.x0 e.d.a.q0 e.d.b.q0)) (J (dW e.d.a.x1 e.d.a.q1) (J (dW e.d.b.x1 e.d.b.q1) (O S1 (J _ (J (.bool (tj e e.d.a.x1 e.d.b.x1 e.d.a.q1 e.d.b.q1)) ?_))))))))));refine O aJ (O ac (O (z:=!(tj e e.d.a.x0 e.d.b.x0 e.d.a.q0 e.d.b.q0&&tj e e.d.a.x1 e.d.b.x1 e.d.a.q1 e.d.b.q1)) ?_ (O ac ?_)))
 ·cases tj e e.d.a.x0 e.d.b.x0 e.d.a.q0 e.d.b.q0 with
  | false=>rfl
  | true=>exact(zia H).trans (O aJ ac)
 cases h0:tj e e.d.a.x0 e.d.b.x0 e.d.a.q0 e.d.b.q0&&tj e e.d.a.x1 e.d.b.x1 e.d.a.q1 e.d.b.q1 with
 | false=>
  rw[zia (show ¬ (tj e e.d.a.x0 e.d.b.x0 e.d.a.q0 e.d.b.q0=true/\tj e e.d.a.x1 e.d.b.x1 e.d.a.q1 e.d.b.q1=true) from λk=>by rw[k.1,k.2] at h0;cases h0)]
  rfl
 | true=>
  rw[zla (show tj e e.d.a.x0 e.d.b.x0 e.d.a.q0 e.d.b.q0=true/\tj e e.d.a.x1 e.d.b.x1 e.d.a.q1 e.d.b.q1=true by rwa [X] at h0)]
  obtain⟨k,hk⟩:∃ k:Nat,dp=(k:Int):=⟨dp.toNat,u0⟩
  subst hk;rw[show((k:Nat):Int).toNat=k from rfl];have f:=Up he k (n+12-k) (j:=0) u0 Dy.zero Dy.one
  rw[show n+12-k+1546+k=n+1558 by omega] at f
  refine(zia (show ¬ ((!true)=true) by decide)).trans ?_
  refine(O (Es (n+526) (x:=0) (cj 0)) (O (Es (n+526) (x:=1) (cj 1)) (O (z:=S7 (cl e k 0 1)) f ?_)));cases cl e k 0 1 with
  | none=>exact J (.sl []) (J [] (J (.bool false) (O aJ (O ac rfl))))
  | some l=>exact J (.sl (l.map Pie.enc)) (J (l.map Pie.enc) (J (.bool true) (O aJ (O ac rfl))))
section
variable{a:Rat}
def Lf(d:Duo):List Pie->Rat->Rat->Prop
 | [],a,b=>a=b
 | p::l,a,b=>Ju a p.t=true/\nZ d p.N p.w a p.t=true/\Lf d l p.t b
theorem GI{d:Duo}:∀ {l l':List Pie} {a m b:Rat},Lf d l a m->Lf d l' m b->Lf d (l++l') a b
 | [],_,_,_,_,h,c=>by
  have h:_=_:=h
  simp_all
 | p::l,_,_,_,_,h,c=>⟨h.1,h.2.1,GI h.2.2 c⟩
theorem AS{α:Type}{g:Nat->Option α}{x:α}:∀ {k:Nat},tN g k=some x->∃ i,i<k/\g i=some x
 | 0,h=>by cases h
 | k+1,h=>by
  have h:(tN g k).or (g k)=some x:=h;cases h1:tN g k with
  | none=>rw[h1] at h;exact⟨k,u0,h⟩
  | some y=> rw[h1] at h;obtain⟨i,hi,e⟩:=AS h1;grind
theorem SD{e:Dd}{t:Rat}{x:V×Option Rat}(h:BU e a t=some x):nZ e.d x.1 x.2 a t=true:=by obtain⟨i,hi,h⟩:=AS h;grind [SB]
def SC{e:Dd}(he:e.Ok){j:Nat}(c:j<=15){t:Rat}(b:Dy j a)(ht:Dy j t){x:V×Option Rat}(h:BU e a t=some x):bd NB x.1/\∀ q,x.2=some q->eO q 159 80:=by
 have tm:=TJ c b ht;obtain⟨i,hi,h⟩:=AS h;unfold SB at h;cases hn:Fq e (NU a t i) with
 | none=>simp only[hn] at h;cases h
 | some p=>
  simp only[hn] at h;have pb:=(Tv he (tm i hi) hn).1;cases hb:nZ e.d p.1 (yr e p.1 (NU a t)) a t with
  | false=>rw[hb] at h;cases h
  | true=>rw[hb] at h;cases h;exact⟨pb,Hw he pb tm⟩
theorem Mn{t:Rat}(h:a<t):a<dT a t/\dT a t<t:=by
 have:=E1;unfold dT;generalize Rat.divInt 1 2=x at *;have:2*((a+t)*x)=a+t:=s6
 grind
structure Pie.Ok(p:Pie):Prop where
 t:∃ j,j<=12/\Dy j p.t
 n:bd NB p.N
 w:∀ q,p.w=some q->eO q 159 80
def F5{j:Nat}(c:j<=20){t:Rat}(h:a<t)(ht:Dy j t):Ju a t=true:=by
 have T:=ht.tm c;have:=T.d;have:=T.b
 simp_all [Ju,X,zea]
theorem tz{e:Dd}(he:e.Ok):∀ (k:Nat) {j:Nat},j+k<=12->∀ {a t:Rat},Dy j a->Dy j t->a<t->∀ {l:List Pie},cl e k a t=some l->Lf e.d l a t/\l≠[]/\∀ p∈l,p.Ok
 | k,j,i,a,t,c,ht,b,l,h=>by
  cases hx:BU e a t with
  | some x=>
   have f:cl e k a t=some [⟨t,x.1,x.2⟩]:=by cases k<;>(unfold cl;rw[hx])
   rw[f] at h;cases h;obtain⟨f1,f2⟩:=SC he u0 c ht hx
   refine⟨⟨F5 u0 b ht,SD hx,rfl⟩,j2,λp hp=>?_⟩
   have:p=⟨t,x.1,x.2⟩:=by simpa using hp
   subst this;exact⟨⟨j,u0,ht⟩,f1,f2⟩
  | none=>
   cases k with
   | zero=>unfold cl at h;rw[hx] at h;cases h
   | succ k=>
    unfold cl at h;rw[hx] at h;obtain⟨m1,G⟩:=Mn b;cases h1:cl e k a (dT a t) with
    | none=>simp only[h1] at h;cases h
    | some l1=>
     simp only[h1] at h;cases h2:cl e k (dT a t) t with
     | none=>simp only[h2] at h;cases h
     | some m=>
      simp only[h2] at h;cases h;obtain⟨a1,a2,a3⟩:=tz he k (j:=j+1) u0 c.up (c.mid ht) m1 h1
      obtain⟨b1,b2,g⟩:=tz he k (j:=j+1) u0 (c.mid ht) ht.up G h2
      refine⟨GI a1 b1,by simp[a2],λp hp=>?_⟩
      all_goals grind
def Duo.swap(d:Duo):Duo:=⟨d.b,d.m,d.a,d.l⟩
theorem Duo.Ok.swap{d:Duo}(h:d.Ok):d.swap.Ok:=⟨h.b,h.a,h.m,h.l,h.lm,h.ll⟩
def Pie.turn(p:Pie):Pie:=⟨p.t,p.N.neg,yq p.w⟩
theorem Sc(h:Pth)(v N:V)(q:Rat)(z:Int):ef (yw h v N.neg (-q)) (-z)=ef (yw h v N q) z:=by funext k;simp only[ef,yw,Ng,Ea,dF,Rat.neg_num,Rat.neg_den,V.neg];grind
def Gt(h:Pth)(l:List V)(N:V)(q a t:Rat)(z:Int):oS h l N.neg (-q) a t (-z)=oS h l N q a t z:=by simp_all [oS,Sc]
def IU(N:V):N.neg.neg=N:=by cases N;simp[V.neg]
def Fj{N:V}:N.neg≠V.zero↔N≠V.zero:=by
 constructor
 ·intro h k;subst k;exact h rfl
 ·intro h k;exact h (by rw[<-IU N,k];rfl)
def Jm(d:Duo)(N:V)(w:Option Rat)(a t:Rat)(hN:FS N.neg=FS N):nZ d.swap N.neg (yq w) a t=nZ d N w a t:=by
 unfold nZ;rw[hN,decide_eq_decide.2 (Fj (N:=N))];cases w with
 | none=>rfl
 | some q=>
  have c:=Gt d.b d.m N q a t 1;have f:=Gt d.a d.l N q a t (-1);have e:yv d.swap N.neg (-q) a t=yv d N q a t:=by show(oS d.b d.m N.neg (-q) a t (-1)&&oS d.a d.l N.neg (-q) a t (- -1))=_;rw[c,f,Bool.and_comm];rfl
  show(FS N&&(decide (N≠V.zero)&&yv d.swap N.neg (-q) a t))=_;rw[e]
end
def Rz(y:Int):Ww (-y)=Ww y:=by unfold Ww;grind
def Sf(N:V):FS N.neg=FS N:=by
 have e:∀ t,aX N.neg (0+t)=-(aX N (0+t)):=λt=>by all_goals grind [aX,V.neg]
 simp_all [FS,Rz]
def GU(X:Nat):∀ i,i<16->0<=bM X i/\bM X i<4294967296:=λi _=>⟨cJ X i,tF X i⟩
def TC(w:Option Rat):∃ r:RawR,r.ok/\r.enc=bH w:=by
 cases w with
 | none=>exact⟨⟨true,false,bM 0,false,decide ((1:Int)<0),bM 1⟩,⟨GU _,GU _⟩,by show D.st [EA,D.st [.bool false,.bool (decide ((1:Int)<0)),LM 1]]=Qs;rw[show Qs=D.st [EA,R 1] from rfl,bS];rfl⟩
 | some q=>exact⟨⟨false,decide (q.num<0),bM q.num.natAbs,false,decide ((q.den:Int)<0),bM (q.den:Int).natAbs⟩,⟨GU _,GU _⟩,by show D.st [D.st [.bool false,.bool (decide (q.num<0)),LM q.num.natAbs],D.st [.bool false,.bool (decide ((q.den:Int)<0)),LM (q.den:Int).natAbs]]=D.st [R q.num,R (q.den:Int)];rw[bS,bS]⟩
def Is{x y:Rat}(hx:InR x)(c:InR y)(h:av x=av y):x=y:=by
 have a:=yh 0 (a:=some x) (b:=some x) (aH hx) (aH hx);have b:=yh 0 (a:=some x) (b:=some y) (aH hx) (aH c);rw[show bH (some y)=bH (some x) from h.symm,a] at b;have e:oT (some x) (some x)=oT (some x) (some y):=by simp_all
 have l1:=EH x y;have d:=EH x x;have g1:=tx x y;have g2:=tx x x;grind
def TN{r:RawR}{w:Option Rat}(hw:OW w)(d:r.ok)(h:r.enc=bH w):r.val=w:=by
 cases hv:r.val with
 | some q=>
  obtain⟨c,e⟩:=akN hv;cases w with
  | none=>
   have a:=nl 0 c;have b:=gJ 0 (a:=none) hw
   simp_all
  | some f=> rw[h] at e;rw[Is (hw f rfl) c e]
 | none=>
  cases w with
  | none=>rfl
  | some q=>
   have a:=nl 0 (hw q rfl);have b:=(akM hv d).1 0;rw[h] at b;have b:C 1030 136 [av q]=some (.bool false):=b
   simp_all
structure Pie.Fine(p:Pie):Prop where
 t:InR p.t
 w:∀ q,p.w=some q->eO q 159 80
def VD{p:Pie}(h:p.Fine):∃ c:Pce,c.Ok/\c.enc=p.enc/\c.r.val=some p.t/\c.k.val=p.w/\c.N=p.N:=by
 obtain⟨r,r1,d⟩:=TC (some p.t);obtain⟨k,a,b⟩:=TC p.w;have ow:OW p.w:=λq hq=>(h.w q hq).inR H H
 have v1:=TN (aH h.t) r1 d;have v2:=TN ow a b;refine⟨⟨r,p.N,k⟩,⟨r1,a,λq hq=>?_⟩,?_,v1,v2,rfl⟩
 ·have:=h.w q (by rw[<-v2];exact hq)
  exact⟨zva this.1 (zqa H H),this.2⟩
 ·show D.st [r.enc,lC p.N k.enc]=D.st [av p.t,lC p.N (bH p.w)];rw[d,b];rfl
def VR(d:Duo)(N:V)(r:RawR)(a t:Rat):DY d N r a t=nZ d N r.val a t:=rfl
theorem MJ:∀ (l:List Pie),(∀ p∈l,p.Fine)->∃ L:List Pce,L.map Pce.enc=l.map Pie.enc/\(∀ c∈L,c.Ok)/\L.length=l.length/\∀ (d:Duo) (a:Rat),Lf d l a 1->wq d L a=true
 | [],_=>⟨[],rfl,j2,rfl,λd a h=>by have h:=h;subst h;unfold wq;rfl⟩
 | p::l,h=>by
  obtain⟨c,c1,c2,b,e,f⟩:=VD (h p j2)
  obtain⟨L,g,m,i,n⟩:=MJ l λq hq=>h q (by simp[hq])
  refine⟨c::L,by rw[z4a,z4a,c2,g],λx hx=>?_,by simp[i],λd a k=>?_⟩
  ·grind
  ·obtain⟨j,o,r⟩:=k
   simp_all [wq,b,j,VR,e,f]
def tv(n:Nat){d:Duo}(e:d.Ok){l:List Pie}(hl:∀ p∈l,p.Fine)(hlen:l.length<=1000)(hc:Lf d l 0 1):C (n+1038) 481 [d.a.enc,bw d.l,d.b.enc,bw d.m,.sl (l.map Pie.enc)]=some (.bool true):=by
 obtain⟨L,f,c,g,h⟩:=MJ l hl;have:=aew n e c u0
 simp_all
theorem Cr{d:Duo}:∀ {l:List Pie} {a b:Rat},Lf d l a b->Lf d.swap (l.map Pie.turn) a b
 | [],_,_,h=>h
 | p::l,a,b,h=>⟨h.1,by show nZ d.swap p.N.neg (yq p.w) a p.t=true;rw[Jm d p.N p.w a p.t (Sf p.N)];exact h.2.1,Cr h.2.2⟩
section
variable{f:Nat->Int}
def hQ(f:Nat->Int)(a b:Rat):Nat->Rat
 | 0=>(f 0:Rat)+f 1*a+f 2*a*a+f 3*a*a*a
 | 1=>((f 1:Rat)+2*f 2*a+3*f 3*a*a)*b
 | 2=>((f 2:Rat)+3*f 3*a)*b*b
 | _=>(f 3:Rat)*b*b*b
def lV(g:Nat->Int)(A B c:Int):dF (bA g (bP A B)) (bP c 0) 0=g 0*A+c/\dF (bA g (bP A B)) (bP c 0) 1=g 0*B+g 1*A ∧
  dF (bA g (bP A B)) (bP c 0) 2=g 1*B+g 2*A/\dF (bA g (bP A B)) (bP c 0) 3=g 2*B+g 3*A:=by
 obtain⟨h0,h1,a,b⟩:=X2 g (bP A B)
 simp_all [dF,bP]
theorem afb(f:Nat->Int)(A B d:Int) :
  (fB f (bP A B) d 4 4 0=f 0*d^3+f 1*d^2*A+f 2*d*A*A+f 3*A*A*A/\fB f (bP A B) d 4 4 1=f 1*d^2*B+2*f 2*d*A*B+3*f 3*A*A*B/\fB f (bP A B) d 4 4 2=f 2*d*B*B+3*f 3*A*B*B/\fB f (bP A B) d 4 4 3=f 3*B*B*B):=by
 have e:fB f (bP A B) d 4 4=dF (bA (dF (bA (dF (bA (dF (bA dZ (bP A B)) (bP (f 3*d^0) 0)) (bP A B)) (bP (f 2*d^1) 0)) (bP A B)) (bP (f 1*d^2) 0)) (bP A B)) (bP (f 0*d^3) 0):=rfl;rw[e];simp only[(lV _ _ _ _).1,(lV _ _ _ _).2.1,(lV _ _ _ _).2.2.1,(lV _ _ _ _).2.2.2,dZ];grind
theorem afa(f:Nat->Int)(A B d:Int) :
  (fB f (bP A B) d 3 3 0=f 0*d^2+f 1*d*A+f 2*A*A/\fB f (bP A B) d 3 3 1=f 1*d*B+2*f 2*A*B/\fB f (bP A B) d 3 3 2=f 2*B*B/\fB f (bP A B) d 3 3 3=0):=by
 have e:fB f (bP A B) d 3 3=dF (bA (dF (bA (dF (bA dZ (bP A B)) (bP (f 2*d^0) 0)) (bP A B)) (bP (f 1*d^1) 0)) (bP A B)) (bP (f 0*d^2) 0):=rfl;rw[e];simp only[(lV _ _ _ _).1,(lV _ _ _ _).2.1,(lV _ _ _ _).2.2.1,(lV _ _ _ _).2.2.2,dZ];grind
theorem ae9(f:Nat->Int)(A B d:Int) :
  (fB f (bP A B) d 2 2 0=f 0*d+f 1*A/\fB f (bP A B) d 2 2 1=f 1*B/\fB f (bP A B) d 2 2 2=0/\fB f (bP A B) d 2 2 3=0):=by
 have e:fB f (bP A B) d 2 2=dF (bA (dF (bA dZ (bP A B)) (bP (f 1*d^0) 0)) (bP A B)) (bP (f 0*d^1) 0):=rfl;rw[e];simp only[(lV _ _ _ _).1,(lV _ _ _ _).2.1,(lV _ _ _ _).2.2.1,(lV _ _ _ _).2.2.2,dZ];grind
def ae8(f:Nat->Int)(A B d:Int) :
  (fB f (bP A B) d 1 1 0=f 0/\fB f (bP A B) d 1 1 1=0/\fB f (bP A B) d 1 1 2=0/\fB f (bP A B) d 1 1 3=0):=by
 have e:fB f (bP A B) d 1 1=dF (bA dZ (bP A B)) (bP (f 0*d^0) 0):=rfl
 simp_all [lV,dZ]
def rN{b:Nat}(a:S f 3 b){k:Nat}(h:(K f).length<=k):f k=0:=by
 rw[<-bN a H k]
 simp_all
theorem Yk{β:Nat}(i:S f 3 β)(h0:0<(K f).length)(a b:Rat):∃ c:Rat,0<c/\∀ k,k<4->((nh f a b k:Int):Rat)=c*hQ f a b k:=by
 have hl:=dI i H
 have n:=po a;have o:=po b;have pa:(0:Rat)<((a.den:Int):Rat):=Rat.intCast_lt_intCast (a:=0) |>.2 (by have:=a.den_pos;omega)
 have pb:(0:Rat)<((b.den:Int):Rat):=Rat.intCast_lt_intCast (a:=0) |>.2 (by have:=b.den_pos;omega)
 have m:(0:Rat)<((B5 a b:Int):Rat):=by unfold B5;rw[fe];exact Rat.mul_pos pa pb
 have g:((a.num*(b.den:Int):Int):Rat)=a*((B5 a b:Int):Rat):=by unfold B5;simp only[fe];grind
 have h:((b.num*(a.den:Int):Int):Rat)=b*((B5 a b:Int):Rat):=by unfold B5;simp only[fe];grind
 have es:nh f a b=fB f (bP (a.num*b.den) (b.num*a.den)) (B5 a b) (K f).length (K f).length:=rfl;rw[es];generalize a.num*(b.den:Int)=A at *;generalize b.num*(a.den:Int)=B at *;generalize B5 a b=d at *;have q:∀ {P:Nat->Prop},P 0->P 1->P 2->P 3->∀ k,k<4->P k:=λh0 h1 s t k hk=>by grind
 have i2:((2:Int):Rat)=2:=rfl;have i3:((3:Int):Rat)=3:=rfl;have p:(K f).length=1\/(K f).length=2\/(K f).length=3\/(K f).length=4:=u0
 rcases p with e|e|e|e
 ·have r:=rN i (k:=1) u0;have z2:=rN i (k:=2) u0;have z3:=rN i (k:=3) u0
  obtain⟨q0,q1,j,l⟩:=ae8 f A B d;refine⟨1,H,?_⟩
  rw[e];refine q ?_ ?_ ?_ ?_
  ·rw[q0];unfold hQ;rw[r,z2,z3];simp only[Rat.intCast_zero];(try simp only[g,h]);clear q0 q1 j l es e i h0 hl n o pa pb m g h i2 i3;grind
  ·rw[q1];unfold hQ;rw[r,z2,z3];simp only[Rat.intCast_zero];(try simp only[g,h]);clear q0 q1 j l es e i h0 hl n o pa pb m g h i2 i3;grind
  ·rw[j];unfold hQ;rw[z2,z3];simp only[Rat.intCast_zero];(try simp only[g,h]);clear q0 q1 j l es e i h0 hl n o pa pb m g h i2 i3;grind
  ·simp_all [l,z3,Rat.intCast_zero,g,h,hQ]
 ·have z2:=rN i (k:=2) u0;have z3:=rN i (k:=3) u0
  obtain⟨q0,q1,j,l⟩:=ae9 f A B d;refine⟨(d:Rat),m,?_⟩;rw[e];refine q ?_ ?_ ?_ ?_
  ·rw[q0];unfold hQ;rw[z2,z3];simp only[Rat.intCast_zero,ju,fe];(try simp only[g,h]);clear q0 q1 j l es e i h0 hl n o pa pb m g h i2 i3;grind
  ·rw[q1];unfold hQ;rw[z2,z3];simp only[Rat.intCast_zero,ju,fe];(try simp only[g,h]);clear q0 q1 j l es e i h0 hl n o pa pb m g h i2 i3;grind
  ·rw[j];unfold hQ;rw[z2,z3];simp only[Rat.intCast_zero];(try simp only[g,h]);clear q0 q1 j l es e i h0 hl n o pa pb m g h i2 i3;grind
  ·simp_all [l,z3,Rat.intCast_zero,g,h,hQ]
 ·have z3:=rN i (k:=3) u0
  obtain⟨q0,q1,j,l⟩:=afa f A B d;refine⟨(d:Rat)*d,Rat.mul_pos m m,?_⟩;rw[e];refine q ?_ ?_ ?_ ?_
  ·rw[q0];unfold hQ;rw[z3];simp only[Rat.intCast_zero,ju,fe,Rat.intCast_pow];(try simp only[g,h]);clear q0 q1 j l es e i h0 hl n o pa pb m g h i2 i3;grind
  ·rw[q1];unfold hQ;rw[z3];simp only[Rat.intCast_zero,ju,fe,i2];(try simp only[g,h]);clear q0 q1 j l es e i h0 hl n o pa pb m g h i2 i3;grind
  ·rw[j];unfold hQ;rw[z3];simp only[Rat.intCast_zero,fe];(try simp only[g,h]);clear q0 q1 j l es e i h0 hl n o pa pb m g h i2 i3;grind
  ·simp_all [l,z3,Rat.intCast_zero,g,h,hQ]
 ·obtain⟨q0,q1,j,l⟩:=afb f A B d;refine⟨(d:Rat)*d*d,Rat.mul_pos (Rat.mul_pos m m) m,?_⟩;rw[e];refine q ?_ ?_ ?_ ?_
  ·rw[q0];unfold hQ;simp only[ju,fe,Rat.intCast_pow];(try simp only[g,h]);clear q0 q1 j l es e i h0 hl n o pa pb m g h i2 i3;grind
  ·rw[q1];unfold hQ;simp only[ju,fe,Rat.intCast_pow,i2,i3];(try simp only[g,h]);clear q0 q1 j l es e i h0 hl n o pa pb m g h i2 i3;grind
  ·rw[j];unfold hQ;simp only[ju,fe,i3];(try simp only[g,h]);clear q0 q1 j l es e i h0 hl n o pa pb m g h i2 i3;grind
  ·rw[l];unfold hQ;simp only[fe];(try simp only[g,h]);clear q0 q1 j l es e i h0 hl n o pa pb m g h i2 i3;grind
end
section
variable{β:Nat}{C E X Y:Rat}
def ya(n:Nat)(h:Nat->Rat)(i:Nat):Nat->Rat
 | 0=>0
 | k+1=>ya n h i k+(iV n i k:Rat)*h k
theorem KK{c:Nat->Int}{h:Nat->Rat}{C E:Rat}(e:∀ k,k<4->C*h k=E*(c k:Rat))(n i:Nat):∀ k,k<=4->C*ya n h i k=E*(Aw n c i k:Rat)
 | 0,_=>by
  show C*0=E*((0:Int):Rat)
  simp_all
 | k+1,hk=>by
  have h1:=KK e n i k u0
  have a:=e k u0
  show C*(ya n h i k+(iV n i k:Rat)*h k)=E*((Aw n c i k+iV n i k*c k:Int):Rat);grind
def RE{g:Nat->Int}(b:S g 3 β):∃ c:Rat,0<c/\∀ k,k<4->(g k:Rat)=c*(ve g k:Rat):=by
 by_cases h0:kL (K g)=0
 ·refine⟨1,H,λk _=>?_⟩
  have z:g k=0:=by
   by_cases hk:k<(K g).length
   ·by_cases hz:g k=0
    ·exact hz
    ·exfalso;have e:=bN b H k
     rw[zDa,zda hk] at e;have e:(K g)[k]=g k:=e;exact LR (x:=g k) (by rw[<-e];exact zGa hk) hz h0
   ·exact rN b u0
  show(g k:Rat)=1*((g k/_:Int):Rat)
  simp_all
 ·refine⟨((kL (K g):Nat):Int),Rat.intCast_lt_intCast (a:=0) |>.2 u0,λk _=>?_⟩
  have dv:((kL (K g):Nat):Int) ∣ g k:=by
   by_cases hk:k<(K g).length
   ·have e:=bN b H k
    rw[zDa,zda hk] at e;have e:=e;rw[<-e];exact sa _ (zGa hk)
   ·rw[rN b u0];exact Int.dvd_zero _
  show(g k:Rat)=_*((g k/((kL (K g):Nat):Int):Int):Rat);rw[<-fe,zUc dv]
theorem RD(a:0<C)(b:0<E)(h:C*X=E*Y):0<=X↔0<=Y:=by
 constructor
 ·intro k;by_cases y:0<=Y
  ·exact y
  ·have:=Rat.mul_pos b (show 0 < -Y by grind)
   have:=Rat.mul_nonneg (Rat.le_of_lt a) k;grind
 ·intro k;by_cases y:0<=X
  ·exact y
  ·have:=Rat.mul_pos a (show 0 < -X by grind)
   have:=Rat.mul_nonneg (Rat.le_of_lt b) k;grind
def si{f:Nat->Int}(b:S f 3 β){a t:Rat}(ht:TwOk a t):wW f a t=true↔∀ i,i<(K f).length->0<=ya ((K f).length-1) (hQ f a (t-a)) i (i+1):=by
 have hl:(K f).length<=4:=dI b H
 unfold wW;simp only[zya,zRa,zea];by_cases h0:(K f).length=0
 ·simp_all
 obtain⟨c,e,hc⟩:=Yk b u0 a (t-a)
 obtain⟨E,E0,g⟩:=RE (BK b H ht.d)
 have key:∀ i,i<(K f).length->(0<=ya ((K f).length-1) (hQ f a (t-a)) i (i+1)↔0<=dH f a t i):=λi hi=>by
  have:=KK (c:=ve (nh f a (t-a))) (h:=hQ f a (t-a)) (C:=c) (E:=E) (λk hk=>by rw[<-hc k hk,g k hk]) ((K f).length-1) i (i+1) u0
  rw[RD e E0 this];show(0:Rat)<=((dH f a t i:Int):Rat)↔_;rw[<-Rat.intCast_zero,Rat.intCast_le_intCast]
 all_goals simp_all
end
def Q4(f:Nat->Int)(a x:Rat):(hQ f a (2*x) 0=hQ f a x 0/\hQ f a (2*x) 1=2*hQ f a x 1/\hQ f a (2*x) 2=4*hQ f a x 2/\hQ f a (2*x) 3=8*hQ f a x 3) ∧
  (hQ f (a+x) x 0=hQ f a x 0+hQ f a x 1+hQ f a x 2+hQ f a x 3/\hQ f (a+x) x 1=hQ f a x 1+2*hQ f a x 2+3*hQ f a x 3/\hQ f (a+x) x 2=hQ f a x 2+3*hQ f a x 3/\hQ f (a+x) x 3=hQ f a x 3):=by
 grind [hQ]
theorem bn0(h:Nat->Rat):ya 0 h 0 1=h 0:=by simp only[ya,show((iV 0 0 0:Int):Rat)=1 from rfl];grind
def SP(h:Nat->Rat):ya 1 h 0 1=h 0/\ya 1 h 1 2=h 0+h 1:=by simp only[ya,show((iV 1 0 0:Int):Rat)=1 from rfl,show((iV 1 1 0:Int):Rat)=1 from rfl,show((iV 1 1 1:Int):Rat)=1 from rfl];grind
def Qz(h:Nat->Rat):ya 2 h 0 1=2*h 0/\ya 2 h 1 2=2*h 0+h 1/\ya 2 h 2 3=2*h 0+2*h 1+2*h 2:=by simp only[ya,show((iV 2 0 0:Int):Rat)=2 from rfl,show((iV 2 1 0:Int):Rat)=2 from rfl,show((iV 2 1 1:Int):Rat)=1 from rfl,show((iV 2 2 0:Int):Rat)=2 from rfl,show((iV 2 2 1:Int):Rat)=2 from rfl,show((iV 2 2 2:Int):Rat)=2 from rfl];grind
def KM(h:Nat->Rat):ya 3 h 0 1=6*h 0/\ya 3 h 1 2=6*h 0+2*h 1/\ya 3 h 2 3=6*h 0+4*h 1+2*h 2/\ya 3 h 3 4=6*h 0+6*h 1+6*h 2+6*h 3:=by simp only[ya,show((iV 3 0 0:Int):Rat)=6 from rfl,show((iV 3 1 0:Int):Rat)=6 from rfl,show((iV 3 1 1:Int):Rat)=2 from rfl,show((iV 3 2 0:Int):Rat)=6 from rfl,show((iV 3 2 1:Int):Rat)=4 from rfl,show((iV 3 2 2:Int):Rat)=2 from rfl,show((iV 3 3 0:Int):Rat)=6 from rfl,show((iV 3 3 1:Int):Rat)=6 from rfl,show((iV 3 3 2:Int):Rat)=6 from rfl,show((iV 3 3 3:Int):Rat)=6 from rfl];grind
def Q5{f:Nat->Int}{a x:Rat}{n:Nat}(hn:n<=3)(b:∀ k,n<k->f k=0)(h:∀ i,i<n+1->0<=ya n (hQ f a (2*x)) i (i+1)) :
  (∀ i,i<n+1->0<=ya n (hQ f a x) i (i+1))/\∀ i,i<n+1->0<=ya n (hQ f (a+x) x) i (i+1):=by
 obtain⟨⟨j,l,m,o⟩,r0,r1,p,q⟩:=Q4 f a x;have z3:n<3->hQ f a x 3=0:=λhk=>by unfold hQ;rw[b 3 hk,Rat.intCast_zero];grind
 have z2:n<2->hQ f a x 2=0:=λhk=>by unfold hQ;rw[b 2 hk,b 3 u0,Rat.intCast_zero];grind
 have d:n<1->hQ f a x 1=0:=λhk=>by unfold hQ;rw[b 1 hk,b 2 u0,b 3 u0,Rat.intCast_zero];grind
 clear b;generalize hQ f a (2*x)=u at *;generalize hQ f a x=L at *;generalize hQ f (a+x) x=R at *;have cs:n=0\/n=1\/n=2\/n=3:=u0
 rcases cs with rfl|rfl|rfl|rfl
 ·grind [bn0]
 ·have h0:=h 0 H;have h1:=h 1 H
  have r:=z2 H;have g:=z3 H
  clear h d z2 z3;rw[(SP u).1] at h0;rw[(SP u).2] at h1;constructor<;>intro i hi<;>(have:i=0\/i=1:=by omega)<;>rcases this with rfl|rfl<;>simp only[(SP _).1,(SP _).2]<;>grind
 ·have h0:=h 0 H;have h1:=h 1 H;have c:=h 2 H
  have g:=z3 H
  clear h d z2 z3;rw[(Qz u).1] at h0;rw[(Qz u).2.1] at h1;rw[(Qz u).2.2] at c;constructor<;>intro i hi<;>(have:i=0\/i=1\/i=2:=by omega)<;>rcases this with rfl|rfl|rfl<;>simp only[(Qz _).1,(Qz _).2.1,(Qz _).2.2]<;>grind
 ·have h0:=h 0 H;have h1:=h 1 H;have c:=h 2 H;have e:=h 3 H
  clear h d z2 z3;rw[(KM u).1] at h0;rw[(KM u).2.1] at h1;rw[(KM u).2.2.1] at c;rw[(KM u).2.2.2] at e;constructor<;>intro i hi<;>(have:i=0\/i=1\/i=2\/i=3:=by omega)<;>rcases this with rfl|rfl|rfl|rfl<;>simp only[(KM _).1,(KM _).2.1,(KM _).2.2.1,(KM _).2.2.2]<;>grind
section
variable{a q:Rat}{N:V}
theorem Vy(a t:Rat):2*(dT a t-a)=t-a/\a+(dT a t-a)=dT a t/\t-dT a t=dT a t-a:=by have:=E1;grind [dT]
theorem CZ{f:Nat->Int}{β:Nat}(b:S f 3 β){t:Rat}(h0:TwOk a t)(h1:TwOk a (dT a t))(c:TwOk (dT a t) t)(h:wW f a t=true):wW f a (dT a t)=true/\wW f (dT a t) t=true:=by
 obtain⟨d,e,g⟩:=Vy a t;have hl:=dI b H
 by_cases hz:(K f).length=0
 ·exact⟨(si b h1).2 λi hi=>u0,(si b c).2 λi hi=>u0⟩
 have k:=(si b h0).1 h;rw[<-d] at k;obtain⟨p,q⟩:=Q5 (f:=f) (a:=a) (x:=dT a t-a) (n:=(K f).length-1) u0 (λk hk=>rN b u0) (λi hi=>k i u0)
 rw[e] at q;refine⟨(si b h1).2 λi hi=>p i u0,(si b c).2 λi hi=>?_⟩
 grind
def Cf{h:Pth}(hh:h.Ok){l:List V}(hl:∀ v∈l,bd 4096 v)(hk:PlnOk N q){t:Rat}(h0:TwOk a t)(h1:TwOk a (dT a t))(d:TwOk (dT a t) t){z:Int}(e:z=1\/z=-1)(k:oS h l N q a t z=true):oS h l N q a (dT a t) z=true/\oS h l N q (dT a t) t z=true:=by
 unfold oS at k ⊢;simp only[zya] at k ⊢;have P:∀ v∈l,S (ef (yw h v N q) z) 3 (198+1):=λv c=>akK (b:=1) (HM hh (hl v c) hk) (by rcases e with rfl|rfl<;>decide)
 exact⟨λv c=>(CZ (P v c) h0 h1 d (k v c)).1,λv c=>(CZ (P v c) h0 h1 d (k v c)).2⟩
def Jl{d:Duo}(c:d.Ok){w:Option Rat}(hw:∀ q,w=some q->eO q 159 80){t:Rat}(h0:TwOk a t)(h1:TwOk a (dT a t))(f:TwOk (dT a t) t)(k:nZ d N w a t=true):nZ d N w a (dT a t)=true/\nZ d N w (dT a t) t=true:=by
 unfold nZ at k ⊢;cases w with
 | none=>simp at k
 | some q=>
  simp only[X] at k ⊢;obtain⟨g,h,e⟩:=k;have hk:PlnOk N q:=⟨λi hi=>Nk g hi,zva (hw q rfl).1 (zqa H H),(hw q rfl).2⟩
  unfold yv at e ⊢;simp only[X] at e ⊢;obtain⟨x1,j⟩:=Cf c.a c.l hk h0 h1 f (.inr rfl) e.1;obtain⟨n,o⟩:=Cf c.b c.m hk h0 h1 f (.inl rfl) e.2
  simp_all
end
def EL:Nat->Rat->List Pie->List Pie
 | _,_,[]=>[]
 | 0,a,p::l=>⟨dT a p.t,p.N,p.w⟩::p::l
 | i+1,a,p::l=>p::EL i p.t l
def Dy.le{j m:Nat}(h:j<=m){t:Rat}(a:Dy j t):Dy m t:=by
 obtain⟨k,rfl⟩:∃ k,m=j+k:=⟨m-j,u0⟩
 clear h
 induction k with
 | zero=>exact a
 | succ k ih=>exact ih.up
def Gb{a t:Rat}(b:Tm a)(ht:Tm t):TwOk a t:=⟨b.n,b.d,ht.n,ht.d⟩
theorem GJ{d:Duo}(m:d.Ok):∀ {l:List Pie} {i:Nat} {a b:Rat},Dy 12 a->(∀ p∈l,p.Ok)->Lf d l a b->Lf d (EL i a l) a b
 | [],i,a,b,_,_,h=>by cases i<;>exact h
 | p::l,0,a,b,f,hl,h=>by
  obtain⟨h1,n,o⟩:=h;obtain⟨j,g,e⟩:=(hl p j2).t
  have c:=e.le g;have lt:a<p.t:=by simp_all [Ju,X,zea]
  obtain⟨m1,G⟩:=Mn lt;have k:=f.mid c;have A:=f.tm H;have B:=c.tm H;have M:=k.tm H
  obtain⟨s1,s2⟩:=Jl m (hl p j2).w (Gb A B) (Gb A M) (Gb M B) n
  exact⟨F5 (j:=13) H m1 k,s1,F5 (j:=12) H G c,s2,o⟩
 | p::l,i+1,a,b,f,hl,h=>by
  obtain⟨j,g,e⟩:=(hl p j2).t
  exact⟨h.1,h.2.1,GJ m (e.le g) (λq hq=>hl q (by simp[hq])) h.2.2⟩
def Pie.Ok.fine{p:Pie}(h:p.Ok):p.Fine:=by obtain⟨j,b,a⟩:=h.t;exact⟨(a.tm u0).t.i,h.w⟩
def JA{p:Pie}(h:p.Fine):p.turn.Fine:=by
 refine⟨h.t,λq hq=>?_⟩;cases hw:p.w with
 | none=>rw[show p.turn.w=yq p.w from rfl,hw] at hq;cases hq
 | some r=>rw[show p.turn.w=yq p.w from rfl,hw] at hq;cases hq;exact eO.neg (h.w r hw)
def UX{d:Duo}(h:d.Few 8):∃ e:Dd,e.d=d/\e.Ok:=by
 obtain⟨F,E,a⟩:=SQ h.ok.l (by have:=h.l;omega) h.hl.srt
 obtain⟨G,E',b⟩:=SQ h.ok.m (by have:=h.m;omega) h.hm.srt
 exact⟨⟨d,F,E,G,E'⟩,rfl,⟨h.ok,h.hl.pos,h.hm.pos,by have:=h.l;show d.l.length<=10;omega,by have:=h.m;show d.m.length<=10;omega,a,b⟩⟩
section
variable{a:Rat}{l:List Pie}
theorem EU(e:Dd){k:Nat}(hk:k<=12):uF e (k:Int)=(160,[])\/uF e (k:Int)=(150,[])\/∃ l,uF e (k:Int)=(0,l)/\cl e k 0 1=some l:=by unfold uF;all_goals grind
def Lu{w:Nat}:∀ {a:Rat} {l:List Pie},Dy 12 a->(∀ p∈l,p.Ok)->∀ p∈EL w a l,p.Fine:=by
 induction w with
 | zero=>
  intro a l d hl p hp;cases l with
  | nil=>cases hp
  | cons q l=>
   rcases zOa.1 hp with rfl|hp
   ·obtain⟨j,c,b⟩:=(hl q j2).t
    exact⟨((d.mid (b.le c)).tm H).t.i,(hl q j2).w⟩
   ·exact(hl p hp).fine
 | succ w ih=>
  intro a l d hl p hp;cases l with
  | nil=>cases hp
  | cons q l=>
   rcases zOa.1 hp with rfl|hp
   ·exact(hl p j2).fine
   ·obtain⟨j,c,b⟩:=(hl q j2).t
    exact ih (b.le c) (λr e=>hl r (by simp[e])) p hp
theorem AE{a:Nat}(h:a<256):D.conv .i64 (.int .u8 (a:Int))=some (I (a:Int)):=by grind [D.conv,iX,inR]
def DU(w i:Nat)(a:Rat)(l:List Pie):List Pie:=if i<=w then EL (w-i) a l else l
def VK{w i:Nat}{p:Pie}(h:i=w):DU w i a (p::l)=⟨dT a p.t,p.N,p.w⟩::p::DU w (i+1) p.t l:=by subst h;unfold DU;rw[zla (zja _),zia u0,zyd];rfl
theorem VL{w i:Nat}{p:Pie}(h:i≠w):DU w i a (p::l)=p::DU w (i+1) p.t l:=by
 unfold DU;by_cases hi:i<=w
 ·rw[zla hi,zla u0,show w-i=(w-(i+1))+1 by omega];rfl
 ·grind
def KF{a b:Int}:D.beq (I a) (I b)=decide (a=b):=by simp[D.beq]
theorem Vs(n:Nat)(d:Duo){x y:Nat}(hx:x<256)(X:y<256){call:Ca}(hc:∀ f xs,f≠473->call f xs=C (n+1559) f xs)(o:call 473 []=some (.bool true)) :
  Pt F call d.a.enc (bw d.l) d.b.enc (bw d.m) (.int .u8 (x:Int)) (.int .u8 (y:Int))=some (.bool true):=by
 delta Pt Q P qT qS qX qV qW iL iR Jn J0 bF bq jl nq qO qa qb qc qe qj Z qn qp qs qt qu qw qy qz
 obtain⟨v,h1,R⟩:=aet (n+1548) d (m:=8) H
 have a0:=O o rfl;refine O (by rw[hc _ _ H];exact h1) (O aJ (O ac ?_))
 cases v with
 | false=>exact fW a0
 | true=>
 obtain⟨e,rfl,he⟩:=UX (R rfl);have hk:x%5<=4:=u0
 have a2:=aeu n he (dp:=((x%5:Nat):Int)) (by simp only[inR];omega)
 refine(zia H).trans (O (AE hx) (O (kZ (a:=x) (b:=5) H) (O (by rw[hc _ _ H];exact a2) ?_)))
 have cs:(∃ r:Int,uF e ((x%5:Nat):Int)=(r,[])/\(r=160\/r=150))\/∃ l,uF e ((x%5:Nat):Int)=(0,l)/\cl e (x%5) 0 1=some l:=by
  rcases EU e (k:=x%5) u0 with a6|a6|a6
  ·simp_all
  ·simp_all
  ·exact .inr a6
 rcases cs with⟨r,G,T⟩|⟨l,G,c⟩
 ·rw[G];rcases T with rfl|rfl
  ·exact J (.sl []) (J (I 160) (O ac (fW (O o (O ac (J true (O ac (J true rfl))))))))
  ·exact J (.sl []) (J (I 150) (O ac (fW (O o (O ac (J true (O ac (J true rfl))))))))
 ·obtain⟨u,ne,ok⟩:=tz he (x%5) (j:=0) u0 Dy.zero Dy.one H c
  have U:l.length<=16:=zva (lu e _ c) (zva (zqa H hk) H)
  have l0:l.length≠0:=λk=>ne (z5b.1 k);rw[G];have h:=tv (n+521) he.d (λp hp=>(ok p hp).fine) u0 u
  refine J (.sl (l.map Pie.enc)) (J (I 0) (O ac ((zia H).trans (J (l.map Pie.enc) (O ac (O (z:=false) ?_ (O ac ((zia H).trans ?_))))))))
  ·rw[KF,zka,zfa u0]
   exact(zia H).trans (O (by rw[hc _ _ H];exact h) (O aJ ac))
  refine O (by rw[hc _ _ H];exact Es (n+527) (x:=0) (cj 0)) (J (l.map Pie.enc) ?_)
  refine aZ (λi s=>∃ (a:Rat) (L:List Pie),s=[.sl ((l.take i).map λp=>p.turn.enc),.sl (L.map Pie.enc),I (i:Int),av a]/\Dy 12 a/\L++DU (y%l.length) i a (l.drop i)=EL (y%l.length) 0 l/\L.length<=2*i) l.length 0 (zoa _) ⟨0,[],rfl,Dy.zero.le H,rfl,zja _⟩ (λi hi s a5=>?_) (λs a5=>?_)
  ·obtain⟨a,L,rfl,E,hL,hlen⟩:=a5;have hp:=zGa hi;obtain⟨j,S,a3⟩:=(ok _ hp).t;have g:=a3.le S;have c1:akk .lss (I (i:Int)) (.int .i64 (l.map Pie.enc).length)=some (.bool true):=by rw[zka,show akk .lss (I (i:Int)) (.int .i64 (l.length:Int))=some (.bool (decide (i<l.length))) from jq,zna hi]
   have c2:D.idx (I (i:Int)) (l.map Pie.enc).length=some i:=by rw[zka];exact aj hi
   have a1:(l.map Pie.enc)[i]?=some l[i].enc:=by simp[hi]
   have K:akk .rem (I (y:Int)) (.int .i64 (l.map Pie.enc).length)=some (I ((y%l.length:Nat):Int)):=by rw[zka];exact kZ l0
   rw[zob hi] at hL;have a4:(l.take (i+1)).map (λp=>p.turn.enc)=(l.take i).map (λp=>p.turn.enc)++[l[i].turn.enc]:=by rw[zxa hi,zib];rfl
   have ow:OW l[i].w:=λq hq=>((ok _ hp).w q hq).inR H H
   have tl:((l.take i).map (λp:Pie=>p.turn.enc)).length+1<=1073741824:=by rw[zka,zjb];omega
   left;by_cases hw:i=y%l.length
   ·rw[VK hw] at hL;have A:=E.tm H;have B:=g.tm H
    have hm:C (n+1559) 485 [av a,av l[i].t]=some (av (dT a l[i].t)):=by have:=Uq (n+526) (a:=some a) (b:=some l[i].t) (aH A.t.i) (aH B.t.i);rw[Bg H E g] at this;exact this
    refine⟨[.sl ((l.take (i+1)).map λp=>p.turn.enc),.sl ((L++[⟨dT a l[i].t,l[i].N,l[i].w⟩,l[i]]).map Pie.enc),I ((i+1:Nat):Int),av l[i].t],?_,l[i].t,L++[⟨dT a l[i].t,l[i].N,l[i].w⟩,l[i]],rfl,g,by rw[zMa];exact hL,by rw[zAa];show L.length+2<=_;omega⟩
    rw[a4];refine O c1 (O ac (fW (J (l.map Pie.enc) (O c2 (O a1 ?_)))));refine J (ag l[i].N) (O (by rw[hc _ _ H];exact QL (n+1558) (ok _ hp).n H) (J (bH l[i].w) (O (by rw[hc _ _ H];exact GE (n+528) ow) (J (l[i].turn.enc) ((zla tl).trans ?_)))))
    refine O (z:=(0,[.sl ((l.take i).map (λp=>p.turn.enc)++[l[i].turn.enc]),.sl (L.map Pie.enc++[Pie.enc ⟨dT a l[i].t,l[i].N,l[i].w⟩])])) ?_ ?_
    ·refine O (AE X) (J (l.map Pie.enc) (O K (O ac ?_)));rw[show D.beq (List.getD [D.sl ((l.take i).map λp=>p.turn.enc),.sl (L.map Pie.enc),I (i:Int),av a] 2 (.bool false)) (I ((y%l.length:Nat):Int))=true from by rw[g2,KF,zna u0]]
     refine fW (J (av l[i].t) (O (by rw[hc _ _ H];exact hm) (J (lC l[i].N (bH l[i].w)) ((zla ?_).trans rfl))))
     show(L.map Pie.enc).length+1<=_;grind
    ·refine(zla ?_).trans (J (av l[i].t) (O (aA (a:=i) (b:=1) u0) ?_))
     ·show(L.map Pie.enc++[_]).length+1<=_;grind
     ·show some (Sum.inl [_,D.sl ((L.map Pie.enc++[Pie.enc ⟨dT a l[i].t,l[i].N,l[i].w⟩])++[l[i].enc]),_,_])=_;rw[zib,zMa];rfl
   ·rw[VL hw] at hL;refine⟨[.sl ((l.take (i+1)).map λp=>p.turn.enc),.sl ((L++[l[i]]).map Pie.enc),I ((i+1:Nat):Int),av l[i].t],?_,l[i].t,L++[l[i]],rfl,g,by rw[zMa];exact hL,by rw[zAa];show L.length+1<=_;omega⟩
    rw[a4];refine O c1 (O ac (fW (J (l.map Pie.enc) (O c2 (O a1 ?_)))));refine J (ag l[i].N) (O (by rw[hc _ _ H];exact QL (n+1558) (ok _ hp).n H) (J (bH l[i].w) (O (by rw[hc _ _ H];exact GE (n+528) ow) (J (l[i].turn.enc) ((zla tl).trans ?_)))))
    refine O (z:=(0,[.sl ((l.take i).map (λp=>p.turn.enc)++[l[i].turn.enc]),.sl (L.map Pie.enc)])) ?_ ?_
    ·refine O (AE X) (J (l.map Pie.enc) (O K (O ac ?_)));rw[show D.beq (List.getD [D.sl ((l.take i).map λp=>p.turn.enc),.sl (L.map Pie.enc),I (i:Int),av a] 2 (.bool false)) (I ((y%l.length:Nat):Int))=false from by rw[g2,KF,zfa u0]]
     rfl
    ·refine(zla ?_).trans (J (av l[i].t) (O (aA (a:=i) (b:=1) u0) ?_))
     ·show(L.map Pie.enc).length+1<=_;grind
     ·rw[zib];rfl
  ·obtain⟨a,L,rfl,E,hL,hlen⟩:=a5;have M:L=EL (y%l.length) 0 l:=by
    simp_all [zFc,DU,EL,zVb]
   rw[z8a];have K2:=tv (n+521) he.d.swap (l:=l.map Pie.turn) (λp hp=>by obtain⟨q,hq,rfl⟩:=zmb.1 hp;exact JA (ok q hq).fine) (by rw[zka];omega) (Cr u)
   rw[zmd] at K2;have K3:=tv (n+521) he.d (l:=L) (λp hp=>by rw[M] at hp;exact Lu (Dy.zero.le H) ok p hp) u0 (by rw[M];exact GJ he.d (Dy.zero.le H) ok u)
   have c1:akk .lss (I (l.length:Int)) (.int .i64 (l.map Pie.enc).length)=some (.bool false):=by rw[zka,show akk .lss (I (l.length:Int)) (.int .i64 (l.length:Int))=some (.bool (decide (l.length<l.length))) from jq,zfa u0]
   refine⟨_,O c1 (O ac rfl),?_⟩;refine O o (O ac (O (z:=true) (fW (O (by rw[hc _ _ H];exact K2) ac)) (O ac (O (z:=true) (fW (O (by rw[hc _ _ H];exact K3) ac)) rfl))))
end
def TU{d:D}(h:wt (.int .u8) d)(b:Ry d):∃ x:Nat,x<256/\d=.int .u8 (x:Int):=by obtain⟨k,rfl⟩:=h;have a:(Lit.int .u8 k).wf=true:=b;simp only[Lit.wf,X,zea] at a;have c:IntKind.u8.min=0:=rfl;have e:IntKind.u8.max=255:=rfl;exact⟨k.toNat,u0,by rw[show((k.toNat:Nat):Int)=k by omega]⟩
def ctr469{d0 d1 d2 d3 d4 d5:D}(h0:wt dG d0)(h1:wt K3 d1)(c:wt dG d2)(d:wt K3 d3)(e:wt (.int .u8) d4)(g:wt (.int .u8) d5)(j:Ry d4)(k:Ry d5):NY Tryz.prog [dG,K3,dG,K3,.int .u8,.int .u8] .bool 5 [d0,d1,d2,d3,d4,d5] (.bool true):=by
 have hw:fm [dG,K3,dG,K3,.int .u8,.int .u8] [d0,d1,d2,d3,d4,d5]:=⟨_,_,rfl,h0,_,_,rfl,h1,_,_,rfl,c,_,_,rfl,d,_,_,rfl,e,_,_,rfl,g,rfl⟩;obtain⟨a,rfl⟩:=NK h0;obtain⟨l,rfl⟩:=TT h1;obtain⟨b,rfl⟩:=NK c;obtain⟨m,rfl⟩:=TT d;obtain⟨x,hx,rfl⟩:=TU e j;obtain⟨y,i,rfl⟩:=TU g k;have key:=WI qD (Cm (0+1559)) (Lc _) [dG,K3,dG,K3,.int .u8,.int .u8] .bool [a.enc,bw l,b.enc,bw m,.int .u8 (x:Int),.int .u8 (y:Int)] (.bool true) B (Vs 0 ⟨a,l,b,m⟩ hx i (λf xs h=>by unfold Cm;rw[zia h]) (by unfold Cm;rw[zla rfl];exact FJ)) hw
 rw[show jY (cp 469)=0 by kernel_rfl] at key
 exact key.1
end Sy
end
end Go.Proofs.YtdlipdnepadhjaaGreat
