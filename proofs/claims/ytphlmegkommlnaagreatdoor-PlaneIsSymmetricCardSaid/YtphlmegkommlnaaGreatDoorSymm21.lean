/- Part 21 of the proof that PlaneIsSymmetric answers true at every input -/
import Derived.Test.YtphlmegkommlnaaGreatDoorSymm18
import Derived.Test.YtphlmegkommlnaaGreatDoorSymm19
import Derived.Test.YtphlmegkommlnaaGreatDoorSymm20
set_option linter.unusedVariables false
set_option linter.unusedSimpArgs false
set_option linter.unnecessarySimpa false
set_option linter.defProp false
set_option maxRecDepth 20000
namespace Go.Proofs.YtphlmegkommlnaaGreatDoor
noncomputable section
namespace Sy
open Go Go.Proofs Geo
def Iq(l:List Nat)(k:Int):Nat:=if k<0 then 0 else l.getD k.toNat 0
def EB{l:List Nat}(h:dl l)(k:Int):Iq l k<65536:=by
 unfold Iq;split
 ·decide
 ·exact h.getD _
def Bm(l:List Nat)(k:Nat):Iq l (k:Int)=l.getD k 0:=by
 unfold Iq;rw[if_neg (by omega),zTc]
def IB(n:Nat)(l:List Nat)(k:Int):cA (n+2) 175 [.sl (ae l),I k]=some (I (Iq l k:Nat)):=by
 rw[U6]
 delta HI qC Jn Iq
 refine aa ah (aa ab ?_);by_cases h:k<0
 ·refine az h ?_;rw[if_pos h];rfl
 ·refine aG h ?_;rw[if_neg h];obtain⟨m,rfl⟩:=zvc (show 0<=k by omega)
  exact aa (CO n l m) rfl
def mr(R n:Nat):Nat:=if n=1 then R*65536 else R/65536^(n-2)
def nR(m i:Nat):(aw m).getD i 0=m/65536^i%65536:=pg i m
def yk(R:Nat){m:Nat}(hm:1<=m):R/65536^(m-1)=R/65536^m*65536+R/65536^(m-1)%65536:=by
 have e:65536^m=65536^(m-1)*65536:=by
  conv=>lhs;rw[show m=m-1+1 by omega]
  exact zjb ..
 rw[e,<-zTa];omega
def Fi{R n:Nat}(hn:1<=n)(hR:R<65536^(n+1)):(aw R).getD n 0*4294967296+(aw R).getD (n-1) 0*65536+Iq (aw R) ((n:Int)-2)=mr R n:=by
 have h1:R/65536^n<65536:=by
  rw[zSa (Nat.pow_pos (by decide)),zBa,<-zjb];exact hR
 have e1:=yk R hn;rw[nR,nR,zJa h1];unfold mr Iq;by_cases hn1:n=1
 ·subst hn1;rw[if_pos rfl,if_pos (by decide)]
  simp only[z8c,zqc,zOc,Nat.pow_one] at *;omega
 ·rw[if_neg hn1,if_neg (by omega),show((n:Int)-2).toNat=n-2 by omega,nR]
  have e2:=yk R (m:=n-1) (by omega)
  rw[show n-1-1=n-2 by omega] at e2
  omega
def Lt{B n:Nat}(hn:1<=n)(hB:B<65536^n):(aw B).getD (n-1) 0*65536+Iq (aw B) ((n:Int)-2)=mr B n:=by
 have h:=Fi (R:=B) hn (zOa hB (zsa (by decide) (ztc n)))
 rw[nR B n,zWa hB,Nat.zero_mod,zsd,z6a] at h;exact h
def Fg{R B n:Nat}(hB0:0<B)(ht:0<mr B n)(hRB:R<65536*B):R/B<=min 65535 (mr R n/mr B n):=by
 have h1:R/B<=65535:=by
  have:=(zSa hB0).2 (show R<65536*B from hRB);omega
 refine Nat.le_min.2 ⟨h1,?_⟩;rw[z0b ht];unfold mr;by_cases hn:n=1
 ·rw[if_pos hn,if_pos hn,<-zXa];exact zAa _ (zdc R B)
 ·rw[if_neg hn,if_neg hn];have hp:0<65536^(n-2):=Nat.pow_pos (by decide)
  rw[z0b hp,zXa];exact zDa (zZa _ (zdc B _)) (zdc R B)
def jk{B:Nat}(hB:0<B):1<=(aw B).length/\B<65536^(aw B).length/\0<mr B (aw B).length:=by
 have h1:1<=(aw B).length:=by
  rcases ztb (aw B).length with h|h
  ·have:=zuc.1 h;have:=sn.1 this;omega
  ·exact h
 have h2:B<65536^(aw B).length:=by
  have:=j7 (aW B);rwa [ao] at this
 refine⟨h1,h2,?_⟩;have h3:65536^((aw B).length-1)<=B:=by
  rcases zna B (65536^((aw B).length-1)) with k|k
  ·have:=bB _ B k;omega
  ·exact k
 unfold mr;split
 ·omega
 ·refine Nat.div_pos (zDa (zsa (by decide) (by omega)) h3) (Nat.pow_pos (by decide))
def M0(n:Nat){A B:Nat}(hA:A<65536^40)(hB:0<B)(hBl:B<65536^40):cA (n+3) 143 [.sl (ae (aw A)),.sl (ae (aw B))]=some (.tup [.sl (ae (aw (A/B))),.sl (ae (aw (A%B)))]):=by
 rw[UQ]
 delta Ht qB qC qT qS qX qV qW qZ iL iR Jn
 obtain⟨n1,n2,n3⟩:=jk hB;have lA:=bB 40 _ hA;have lB:=bB 40 _ hBl;have dB:=aW B;obtain⟨L,hL⟩:∃ L,(aw B).length=L:=⟨_,rfl⟩;rw[hL] at n1 n2 n3 lB;obtain⟨M,hM⟩:∃ M,(aw A).length=M:=⟨_,rfl⟩;rw[hM] at lA;have eLen:((ae (aw B)).length:Int)=(L:Int):=by rw[ai,hL]
 have eLenA:((ae (aw A)).length:Int)=(M:Int):=by rw[ai,hM]
 refine aa (z:=ae (aw A)) rfl (aa (z:=M) (by rw[eLenA];exact Cb M) ?_)
 rw[if_pos (by omega)]
 refine aa (z:=ae (aw B)) rfl ?_;rw[eLen];have hb1:(aw B).getD (L-1) 0<65536:=dB.getD _;have htop:=Lt n1 n2;refine aa (kJ (b:=1) rfl n1 (by omega)) (aa (z:=ae (aw B)) rfl (aa (z:=L-1) (by rw[ai,hL];exact ap (by omega)) (aa (cP (l:=aw B) (i:=L-1) (by omega)) ?_)))
 refine aa (mN (b:=65536) (by omega)) (aa (z:=I ((L:Int)-2)) (cO (by simp only[inR];omega)) (aa (IB n (aw B) ((L:Int)-2)) ?_))
 have hb2':=EB dB ((L:Int)-2);refine aa (a8 (by omega)) ?_
 rw[htop];have htop64:mr B L<4294967296:=by rw[<-htop];omega
 generalize hTB:mr B L=TB at *;refine aa (z:=ae (aw A)) rfl ?_;rw[eLenA];refine aa (z:=I ((M:Int)-1)) (cO (by simp only[inR];omega)) ?_
 rw[uQ];have hA0:A/65536^M=0:=by
  have:=j7 (aW A);rw[ao,hM] at this;exact zWa this
 refine bk (λt s=>∃ q:List Nat,s=[.sl (ae (aw (A/65536^(M-t)%B))),I ((M:Int)-1-(t:Nat)),.sl (ae q)]/\q.length=M/\dl q/\(∀ i,i<M-t->q.getD i 0=0)/\aZ q=A/65536^(M-t)/B*65536^(M-t)) M 0 (zma _) ⟨List.replicate M 0,?_,by simp,λx hx=>by rw[zhd hx];decide,λi _=>by simp[List.getD,List.getElem?_replicate];split<;>rfl,?_⟩ (λt ht s hJ=>?_) (λs hJ=>?_)
 ·rw[Nat.sub_zero,hA0,Nat.zero_mod,ce];congr 3;omega
 ·have:=mS [] M;rw[z2b] at this;rw[this,Nat.sub_zero,hA0,Nat.zero_div,zsd];rfl
 ·obtain⟨q,rfl,hql,hqd,hqz,hqv⟩:=hJ;left;obtain⟨k,hk⟩:∃ k,k=M-1-t:=⟨_,rfl⟩;have hkM:k<M:=by omega
  rw[show M-t=k+1 by omega] at hqz hqv ⊢
  rw[show(M:Int)-1-(t:Nat)=(k:Nat) by omega]
  have hrB:A/65536^(k+1)%B<B:=zPa _ hB;have hAk:A/65536^k=65536*(A/65536^(k+1))+(aw A).getD k 0:=by
   rw[nR,zjb,<-zTa];omega
  have hdk:(aw A).getD k 0<65536:=(aW A).getD k;obtain⟨R,hR⟩:∃ R,R=65536*(A/65536^(k+1)%B)+(aw A).getD k 0:=⟨_,rfl⟩;have hRB:R<65536*B:=by
   have:65536*(A/65536^(k+1)%B+1)<=65536*B:=zZa _ hrB;omega
  have hRq:A/65536^k/B=65536*(A/65536^(k+1)/B)+R/B:=by
   have e:=zSb (A/65536^(k+1)) B;have e2:A/65536^k=R+B*(65536*(A/65536^(k+1)/B)):=by
    rw[hAk,hR];generalize A/65536^(k+1)=X at *;have:65536*X=65536*(B*(X/B)+X%B):=by rw[e]
    rw[zPb] at this;have c:B*(65536*(X/B))=65536*(B*(X/B)):=by rw[<-zXa,zBa B,zXa]
    omega
   rw[e2,zHb _ _ hB];omega
  have hRm:A/65536^k%B=R%B:=by
   have e:=zSb (A/65536^(k+1)) B;have e2:A/65536^k=R+B*(65536*(A/65536^(k+1)/B)):=by
    rw[hAk,hR];generalize A/65536^(k+1)=X at *;have:65536*X=65536*(B*(X/B)+X%B):=by rw[e]
    rw[zPb] at this;have c:B*(65536*(X/B))=65536*(B*(X/B)):=by rw[<-zXa,zBa B,zXa]
    omega
   rw[e2,zcd]
  have hlr:(aw (A/65536^(k+1)%B)).length<=40:=bB 40 _ (zZb hrB hBl);have hRl:R<65536^(L+1):=by
   rw[zjb,zBa];exact zOa hRB (zZa _ (zhc n2))
  have hR41:R<65536^41:=zOa hRl (zsa (by decide) (by omega))
  have lR:=bB 41 _ hR41;have dR:=aW R;obtain⟨q',hq'⟩:∃ q',q'=q.set k (R/B):=⟨_,rfl⟩;have hRB2:R/B<=65535:=by have:=(zSa hB).2 hRB;omega
  refine⟨[.sl (ae (aw (R%B))),I ((k:Int)-1),.sl (ae q')],?_,q',by rw[show M-(t+1)=k by omega,hRm];congr 3;omega,by rw[hq'];simpa using hql,?_,?_,?_⟩
  ·refine aa gh (aa ab (az (by show(k:Int) ≥ 0;omega) ?_))
   refine aa (z:=ae (aw A)) rfl (aa (z:=k) (by rw[ai,hM];exact ap hkM) (aa (cP (l:=aw A) (i:=k) (by omega)) (aa (z:=ae (aw (A/65536^(k+1)%B))) rfl ?_)))
   rw[if_pos (by rw[ai];simp;omega)]
   have hcons:[I (((aw A).getD k 0:Nat):Int)]++ae (aw (A/65536^(k+1)%B))=ae ((aw A).getD k 0::aw (A/65536^(k+1)%B)):=rfl;rw[hcons];have hdl:dl ((aw A).getD k 0::aw (A/65536^(k+1)%B)):=dl.cons hdk (aW _);have htr:=xV (n+1) (l:=(aw A).getD k 0::aw (A/65536^(k+1)%B)) (by simp;omega)
   rw[gt hdl,show aZ ((aw A).getD k 0::aw (A/65536^(k+1)%B))=R by rw[aZ,ao,hR];omega] at htr
   refine aa htr ?_;have g1:=dR.getD L;have g2:=dR.getD (L-1);have g3:=EB dR ((L:Int)-2);have h3:=Fi n1 hRl;refine aa (IB n (aw R) (L:Int)) ?_;rw[Bm];refine aa (mN (b:=4294967296) (by omega)) (aa (kJ (b:=1) rfl n1 (by omega)) (aa (IB n (aw R) ((L-1:Nat):Int)) ?_))
   rw[Bm];refine aa (mN (b:=65536) (by omega)) (aa (a8 (by omega)) (aa (z:=I ((L:Int)-2)) (cO (by simp only[inR];omega)) (aa (IB n (aw R) ((L:Int)-2)) (aa (a8 (by omega)) ?_))))
   rw[h3];have hH:mr R L<=9223372036854775807:=by rw[<-h3];omega
   have hge:=Fg (R:=R) (n:=L) hB (by rw[hTB];exact n3) hRB
   rw[hTB] at hge;refine aa (jh (by omega) (by omega)) (aa (z:=I ((min 65535 (mr R L/TB):Nat):Int)) (by rw[show(D.int .i64 65535)=I ((65535:Nat):Int) from rfl,NM];congr 2;omega) ?_)
   have hd0:min 65535 (mr R L/TB)<=65535:=Nat.min_le_left ..;generalize min 65535 (mr R L/TB)=d0 at *;have hpart:∀ d:Nat,d<=65535->cA (n+2) 146 [.sl (ae (aw B)),.sl [I (d:Int)]]=some (.sl (ae (aw (B*d)))):=λd hd=>by
    have:=KK n (a:=aw B) (b:=[d]) dB (λx hx=>by simp at hx;omega) (by omega) (by simp)
    rw[ao,show aZ [d]=d by simp[aZ]] at this
    exact this
   refine aa (hpart d0 hd0) ?_;refine ou (λd s=>s=[I (d:Int),.sl (ae (aw (B*d))),.sl (ae q)]/\R/B<=d/\d<=65535) d0 _ ⟨rfl,hge,hd0⟩ (λd s hJ=>?_);obtain⟨rfl,k1,k2⟩:=hJ;have hBd:B*d<65536^41:=by
    have:B*d<=B*65536:=zZa _ (by omega)
    have e:(65536:Nat)^41=65536^40*65536:=zjb ..;have:B*65536<65536^40*65536:=zpb hBl (by decide)
    omega
   have lBd:=bB 41 _ hBd;have h78:=O6 n dR (aW (B*d)) (by omega) (by omega)
   rw[ao,ao] at h78;by_cases hlt:R<B*d
   ·left;rw[decide_eq_true hlt] at h78;have hd1:R/B<d:=by rw[zSa hB,zBa];exact hlt
    have hd1p:1<=d:=zKa (zma _) hd1;refine⟨d-1,[I ((d-1:Nat):Int),.sl (ae (aw (B*(d-1)))),.sl (ae q)],by omega,?_,rfl,zvd hd1,by omega⟩
    refine aa h78 (aa (z:=true) rfl ?_);rw[if_pos rfl];have e:B*d-B=B*(d-1):=by rw[Nat.mul_sub,zkd]
    have h126:=Ix n (aW (B*d)) dB (by omega) (by rw[ao,ao];exact zld _ (by omega))
    rw[ao,ao,e] at h126;exact aa (kJ (b:=1) rfl (by omega) (by omega)) (aa h126 rfl)
   ·right;rw[decide_eq_false hlt] at h78;have hd1:d<=R/B:=by rw[z0b hB,zBa];omega
    have hdq:d=R/B:=by omega
    refine⟨(0,[I (d:Int),.sl (ae (aw (B*d))),.sl (ae q)]),?_,?_⟩
    ·refine aa h78 (aa (z:=false) rfl ?_);rw[if_neg (by decide)];rfl
    ·have h126:=Ix n dR (aW (B*d)) (by omega) (by rw[ao,ao];omega)
     have e:R-B*d=R%B:=by rw[hdq];have:=zSb R B;omega
     rw[ao,ao,e] at h126;have hkq:k<q.length:=by omega
     refine aa (yC hkq) (aa (cP hkq) (aa h126 (aa (cO (by simp only[inR];omega)) ?_)))
     show some (Sum.inl [_,_,D.sl (List.set (ae q) k (I (d:Int)))])=_;rw[pj,hdq,<-hq'];first|rfl|skip
  ·rw[hq'];refine J9 λi hi=>?_;rw[kY _ _ _ _ (by omega)]
   split
   ·omega
   ·exact hqd.getD i
  ·intro i hi;rw[hq',kY _ _ _ _ (by omega),if_neg (by omega)]
   exact hqz i (by omega)
  ·have e:=nU (l:=q) (j:=k) (v:=R/B) (by omega)
   rw[hqz k (by omega),z9c,zTb,<-hq'] at e
   rw[e,hqv,show M-(t+1)=k by omega,hRq,zjb,zYa,zBa (R/B),zBa 65536,zXa,zBa (65536^k) 65536]
 ·obtain⟨q,rfl,hql,hqd,_,hqv⟩:=hJ;rw[z8c,zqc,zOc,zkd] at hqv;refine⟨(0,[.sl (ae (aw (A%B))),.sl (ae q)]),?_,?_⟩
  ·rw[z8c,zqc,zOc];exact aa gh (aa ab (aG (by show ¬ ((M:Int)-1-(M:Nat)) ≥ 0;omega) rfl))
  ·have htr:=xV (n+1) (l:=q) (by omega)
   rw[gt hqd,hqv] at htr;exact aa htr rfl
def I2{m:Nat}(h:m<65536^32):m<65536^40:=zOa h (zsa (by decide) (by decide))
def zQ(n:Nat){x:Int}(hx:In x):∃ w b,cA (n+3) 124 [ag x]=some (.tup [I w,.bool b])/\(b=true->Wd x):=by
 by_cases h:Wd x
 ·exact⟨x,true,rQ n h,λ_=>h⟩
 ·exact⟨0,false,EI n hx h,λe=>by cases e⟩
def KU(n:Nat){x y:Int}(hx:In x)(hy:In y):cA (n+4) 85 [ag x,ag y]=some (ag (Nat.gcd x.natAbs y.natAbs:Nat)):=by
 by_cases hw:Wd x/\Wd y
 ·exact O7 n hw.1 hw.2
 ·rw[V6]
  delta MG qB qC qT qN qS qZ iL iR Jn
  obtain⟨w1,b1,h1,k1⟩:=zQ n hx;obtain⟨w2,b2,h2,k2⟩:=zQ n hy;have hb:(b1&&b2)=false:=by
   cases b1<;>cases b2<;>first|rfl|exact absurd ⟨k1 rfl,k2 rfl⟩ hw
  refine aa h1 (aa (z:=I w1) rfl (aa (z:=.bool b1) rfl (aa h2 (aa (z:=I w2) rfl (aa (z:=.bool b2) rfl (aa (z:=b1) rfl (aa (z:=false) (by cases b1<;>cases b2<;>simp at hb<;>rfl) (aa (z:=false) rfl ?_))))))))
  rw[if_neg (by decide)]
  refine aa (rR (n+1) hx) (aa aP (aa (z:=false) rfl (aa (z:=false) (by rw[if_neg (by decide)];exact aa (rR (n+1) hy) rfl) (aa (z:=false) rfl ?_))))
  rw[if_neg (by decide)]
  refine aa (zS (n+1) hx) (aa (zS (n+1) hy) ?_);have hx':x.natAbs<65536^32:=hx;have hy':y.natAbs<65536^32:=hy;refine ou (λm s=>∃ a,s=[.sl (ae (aw a)),.sl (ae (aw m))]/\a<65536^32/\m<65536^32/\Nat.gcd a m=Nat.gcd x.natAbs y.natAbs) y.natAbs _ ⟨x.natAbs,rfl,hx',hy',rfl⟩ (λm s hJ=>?_);obtain⟨a,rfl,ha,hm,hg⟩:=hJ;by_cases h0:m=0
  ·right;subst h0;rw[Nat.gcd_zero_right] at hg;rw[ce];refine⟨(0,[.sl (ae (aw a))]),?_,?_⟩
   ·exact aa (z:=ae []) rfl (aa (z:=.bool false) rfl (aa (z:=false) rfl rfl))
   ·have la:=bB 32 _ ha;refine aa (J7 (n+1) (neg:=false) (aW a) (by omega) (by rw[ao];exact ha)) ?_
    rw[ao,hg];rfl
  ·left;have hlt:a%m<m:=zPa _ (by omega)
   refine⟨a%m,[.sl (ae (aw m)),.sl (ae (aw (a%m)))],hlt,?_,m,rfl,hm,zZb hlt hm,by rw[<-hg,zzc a m,Nat.gcd_rec m a,zzc]⟩
   have hl:=(jk (B:=m) (by omega)).1
   refine aa (z:=ae (aw m)) rfl (aa cV (aa ab (az (by show((ae (aw m)).length:Int)>0;rw[ai];omega) ?_)))
   exact aa (M0 n (I2 ha) (by omega) (I2 hm)) (aa (z:=.sl (ae (aw (a/m)))) rfl (aa (z:=.sl (ae (aw (a%m)))) rfl rfl))
def IF(n:Nat){x y:Int}(hx:In x)(hy:In y)(hy0:y≠0)(hd:y ∣ x):cA (n+4) 87 [ag x,ag y]=some (ag (x/y)):=by
 by_cases hw:Wd x/\Wd y
 ·exact O8 n hw.1 hw.2 hy0 hd
 ·have hin:=Er hx hd;obtain⟨q,hq⟩:=hd;have exy:x/y=q:=by rw[hq];exact z9a _ hy0
  rw[exy] at hin ⊢;rw[V7]
  delta MH qG qB qT qN qS Jn
  obtain⟨w1,b1,h1,k1⟩:=zQ n hx;obtain⟨w2,b2,h2,k2⟩:=zQ n hy;have hb:(b1&&b2)=false:=by
   cases b1<;>cases b2<;>first|rfl|exact absurd ⟨k1 rfl,k2 rfl⟩ hw
  have hx':x.natAbs<65536^32:=hx;have hy':y.natAbs<65536^32:=hy;have hl:=(jk (B:=y.natAbs) (by omega)).1
  refine aa h1 (aa (z:=I w1) rfl (aa (z:=.bool b1) rfl (aa h2 (aa (z:=I w2) rfl (aa (z:=.bool b2) rfl (aa (z:=b1) rfl (aa (z:=false) (by cases b1<;>cases b2<;>simp at hb<;>rfl) (aa (z:=false) rfl (aa (z:=false) rfl (aa (z:=false) rfl ?_))))))))))
  rw[if_neg (by decide)]
  refine aa (rR (n+1) hx) (aa aP (aa (z:=false) rfl (aa (z:=false) (by rw[if_neg (by decide)];exact aa (rR (n+1) hy) rfl) (aa (z:=false) rfl (aa (z:=false) ?_ (aa (z:=false) rfl ?_))))))
  ·rw[if_neg (by decide)]
   refine aa (zS (n+1) hy) (aa (z:=ae (aw y.natAbs)) rfl ?_);show D.truth (.bool (D.beq (I ((ae (aw y.natAbs)).length:Nat)) (I ((0:Nat):Int))))=_;rw[ai,cd,decide_eq_false (by omega)];rfl
  rw[if_neg (by decide)]
  have hmod:x.natAbs%y.natAbs=0:=by rw[hq,zLa];exact Nat.mul_mod_right _ _
  have hqt:x.natAbs/y.natAbs<65536^32:=zKa (zoc _ _) hx';have h143:=M0 n (I2 hx') (B:=y.natAbs) (by omega) (I2 hy')
  rw[hmod,ce] at h143;have hb':(!(D.beq (.bool (decide (x<0))) (.bool (decide (y<0)))))=!(decide (decide (x<0)=decide (y<0))):=by
   by_cases h1:x<0<;>by_cases h2:y<0<;>simp[h1,h2,D.beq]
  refine aa (zS (n+1) hx) (aa (zS (n+1) hy) (aa h143 (aa (z:=.sl (ae (aw (x.natAbs/y.natAbs)))) rfl (aa (z:=.sl (ae [])) rfl ?_))));refine aa (z:=(0,[.sl (ae (aw (x.natAbs/y.natAbs)))])) ?_ (aa (bn x) (aa (bn y) ?_))
  ·refine aa (bn x) (aa (bn y) ?_);rw[hb'];refine aa (z:=!(decide (decide (x<0)=decide (y<0)))) rfl (aa (z:=false) ?_ (aa (z:=false) rfl rfl));cases (!(decide (decide (x<0)=decide (y<0))))<;>rfl
  ·rw[hb'];have lq:=bB 32 _ hqt;refine aa (J7 (n+1) (aW _) (by omega) (by rw[ao];exact hqt)) ?_
   rw[ao,Cq hy0 hq]
def O5(n:Nat){x d:Int}(hx:In x)(hd:In d)(hd0:d≠0):cA (n+5) 37 [ag x,ag d]=some (gz (Rat.divInt x d)):=by
 rw[Vo]
 delta L2 qC qT qN Jn
 have hbe:∀ a b:Int,D.beq (I a) (.int .i64 b)=decide (a=b):=λa b=>bK;have hgp:0<Nat.gcd x.natAbs d.natAbs:=znc _ (by omega)
 have dx:((Nat.gcd x.natAbs d.natAbs:Nat):Int) ∣ x:=z1a.2 (zbb _ _);have dd:((Nat.gcd x.natAbs d.natAbs:Nat):Int) ∣ d:=z1a.2 (zzb _ _);have hgle:Nat.gcd x.natAbs d.natAbs<=d.natAbs:=Nat.gcd_le_right _ (by omega)
 have hgin:In (Nat.gcd x.natAbs d.natAbs:Nat):=kK.2 (zKa hgle (aT.1 hd));obtain⟨p1,p2⟩:=fj x hd0;unfold gz;rw[p1,p2];refine aa (rR (n+2) hx) (aa (z:=.bool false) rfl (aa (z:=false) rfl (aa (z:=false) ?_ (aa (z:=false) rfl (aa (z:=false) ?_ (aa (z:=false) rfl ?_))))))
 ·rw[if_neg (by decide)];exact aa (rR (n+2) hd) rfl
 ·rw[if_neg (by decide)]
  refine aa (Nq (n+1) hd) ?_;rw[hbe,decide_eq_false (Cp hd0)];rfl
 rw[if_neg (by decide)]
 refine aa (KU n hx hd) ?_;generalize Nat.gcd x.natAbs d.natAbs=g at *;refine aa (z:=(0,[ag (if d<0 then -(g:Int) else(g:Int))])) ?_ ?_
 ·refine aa (Nq (n+1) hd) (aa ah (aa ab ?_));by_cases h:d<0
  ·rw[if_pos h];refine az (by rw[xr h];decide) ?_
   exact aa (X4 (n+1) hgin) rfl
  ·rw[if_neg h];exact aG (by rw[fW (by omega)];decide) rfl
 ·have hin2:In (if d<0 then -(g:Int) else(g:Int)):=by
   split
   ·rw[aT,zmc];exact aT.1 hgin
   ·exact hgin
  have hne:(if d<0 then -(g:Int) else(g:Int))≠0:=by split<;>omega
  have ddx:(if d<0 then -(g:Int) else(g:Int)) ∣ x:=by split<;>first|exact Int.neg_dvd.2 dx|exact dx
  have ddd:(if d<0 then -(g:Int) else(g:Int)) ∣ d:=by split<;>first|exact Int.neg_dvd.2 dd|exact dd
  exact aa (IF n hx hin2 hne ddx) (aa (IF n hd hin2 hne ddd) rfl)
end Sy
end
noncomputable section
namespace Sy
open Go Go.Proofs Geo
def bG{x:Int}(h:inR x):In x:=by
 unfold In;have:(65536:Nat)^4<=65536^32:=zsa (by decide) (by decide)
 have e:(65536:Nat)^4=18446744073709551616:=rfl;simp only[inR] at h;omega
def MK{x y:Int}(hy:In y)(h:x.natAbs<=y.natAbs):In x:=zKa h hy
def ib(x:Int)(h:-9223372036854775808<=x/\x<=9223372036854775807:=by decide):inR x:=h
def KJ(n:Nat):cA (n+4) 133 []=some (ag 1):=by
 rw[UK];delta Hn Jn;exact aa (Bx n (ib 1)) rfl
def Bs(n:Nat)(f:Nat->Int):D.beq (cp n f) (cp n f)=true:=by
 show D.beqs _ _=true;rw[rL];simp
def xQ(x:Int):D.beq (ag x) (ag x)=true:=by
 rw[cn];show(D.beq (.bool false) (.bool false)&&(D.beq (.bool (decide (x<0))) (.bool (decide (x<0)))&&(D.beq (LM x.natAbs) (LM x.natAbs)&&true)))=true;rw[Bs];simp[D.beq]
def X5(n:Nat){q:Rat}(h:InR q):cA (n+5) 88 [gz q]=some (.bool true):=by
 rw[V8];delta MI qG qC qT qN Jn;have hp:(0:Int)<(q.den:Int):=by have:=q.den_pos;omega
 refine aa (z:=ag q.num) rfl (aa (rR (n+2) h.1) (aa (z:=.bool false) rfl (aa (z:=false) rfl (aa (z:=false) ?_ (aa (z:=false) rfl ?_)))))
 ·rw[if_neg (by decide)]
  exact aa (z:=ag (q.den:Int)) rfl (aa (rR (n+2) h.2) (aa (z:=.bool false) rfl rfl))
 rw[if_neg (by decide)]
 refine aa (z:=ag (q.den:Int)) rfl (aa (Nq (n+1) h.2) (aa (z:=.bool true) (by rw[fW hp];rfl) (aa (z:=true) rfl (aa (z:=true) ?_ rfl))))
 rw[if_pos rfl];refine aa (z:=ag q.num) rfl (aa (z:=ag (q.den:Int)) rfl (aa (KU n h.1 h.2) (aa (KJ n) ?_)));have e:Nat.gcd q.num.natAbs (q.den:Int).natAbs=1:=q.reduced;rw[e];show D.truth (.bool (D.beq (ag 1) (ag 1)))=_;rw[xQ];rfl
def zV:In 1:=bG (ib 1)
def qb(x:Int):Rat.divInt x 1=(x:Rat):=by
 conv=>rhs;rw[<-zsb (x:Rat)]
 rfl
def VW(n:Nat){x:Int}(hx:In x):cA (n+6) 63 [ag x]=some (gz (x:Rat)):=by
 rw[Yw];unfold OI;refine aa (KJ (n+1)) (aa (O5 n hx zV (by decide)) ?_)
 rw[qb]
def lN(x:Int){d:Int}(hd:d≠0):(Rat.divInt x d).num.natAbs<=x.natAbs/\(Rat.divInt x d).den<=d.natAbs:=by
 obtain⟨p1,p2⟩:=fj x hd;have hgp:0<Nat.gcd x.natAbs d.natAbs:=znc _ (by omega)
 have key:∀ z:Int,(z/(if d<0 then -(Nat.gcd x.natAbs d.natAbs:Int) else(Nat.gcd x.natAbs d.natAbs:Int))).natAbs<=z.natAbs\/¬ ((Nat.gcd x.natAbs d.natAbs:Nat):Int) ∣ z:=by
  intro z;by_cases hz:((Nat.gcd x.natAbs d.natAbs:Nat):Int) ∣ z
  ·left;obtain⟨k,rfl⟩:=hz;generalize Nat.gcd x.natAbs d.natAbs=g at *;rw[zLa,zqa];have:k.natAbs<=g*k.natAbs:=zKb _ hgp;split
   ·rw[Int.ediv_neg,z9a _ (by omega),zmc];exact this
   ·rw[z9a _ (by omega)];exact this
  ·exact .inr hz
 constructor
 ·rw[p1];rcases key x with h|h
  ·exact h
  ·exact absurd (z1a.2 (zbb _ _)) h
 ·have:(Rat.divInt x d).den=((Rat.divInt x d).den:Int).natAbs:=rfl;rw[this,p2];rcases key d with h|h
  ·exact h
  ·exact absurd (z1a.2 (zzb _ _)) h
def fK{x d:Int}(hx:In x)(hd:In d)(h0:d≠0):InR (Rat.divInt x d):=by
 obtain⟨h1,h2⟩:=lN x h0;exact⟨zKa h1 hx,zKa (by rw[zqa];exact h2) hd⟩
def cl(q:Rat):(q.den:Int)≠0:=by have:=q.den_pos;omega
def fitA(x y:Rat):Prop:=x.num.natAbs*y.den+y.num.natAbs*x.den<dJ/\x.den*y.den<dJ
def fitM(x y:Rat):Prop:=x.num.natAbs*y.num.natAbs<dJ/\x.den*y.den<dJ
def Bi{x:Int}(h:In x):InR (x:Rat):=⟨by simpa using h,by simpa using zV⟩
structure RV where
 x:Rat
 y:Rat
 z:Rat
def RV.of(v:V):RV:=⟨v.x,v.y,v.z⟩
def RV.mul(k:Rat)(v:RV):RV:=⟨k*v.x,k*v.y,k*v.z⟩
end Sy
end
noncomputable section
namespace Geo
open V
section
variable{P:Nat->V}{N:Nat}
end
end Geo
end
noncomputable section
namespace Geo
open V
section
variable{P:Nat->V}{N:Nat}
def MN(P:Nat->V)(N:Nat)(k:Nat):Prop:=∃ n d,IsF P N n d/\k∈bq P N n d/\lK P (bq P N n d) k
end
end Geo
end
noncomputable section
namespace Geo
open V
section
variable{P P':Nat->V}{N N':Nat}
variable(hl:∀ i j,i<j->j<N->aC (P i) (P j))(hl':∀ i j,i<j->j<N'->aC (P' i) (P' j))
 (hsub:∀ k,k<N'->∃ j,j<N/\P j=P' k) (hsup:∀ k,MN P N k->∃ j,j<N'/\P' j=P k)
include hl hl' hsub hsup
end
section
variable{P P':Nat->V}{N N':Nat}(hl:∀ i j,i<j->j<N->aC (P i) (P j))(hl':∀ i j,i<j->j<N'->aC (P' i) (P' j))
 (hsub:∀ k,k<N'->∃ j,j<N/\P j=P' k/\MN P N j) (hsup:∀ k,MN P N k->∃ j,j<N'/\P' j=P k)
include hl hl' hsub hsup
end
end Geo
end
noncomputable section
namespace Geo
open V
section
variable{P:Nat->V}{N:Nat}
def dd(h u w:V):V:=cross (cross u w) h
end
end Geo
end
noncomputable section
namespace Geo
open V
section
variable{P:Nat->V}{N:Nat}
section
variable(hl:∀ i j,i<j->j<N->aC (P i) (P j)){L:List (V×Int)}(hL:Facets P N L){poly:V×Int->List Nat}(hp:∀ q∈L,bz P N q.1 q.2 (poly q))
include hl hL hp
end
end
end Geo
end
noncomputable section
namespace Geo
open V
abbrev T3:=V×V×V
def YO(t:T3):Int:=V.dot (V.cross t.1 t.2.1) t.2.2
section
variable{P:Nat->V}{N:Nat}(hl:∀ i j,i<j->j<N->aC (P i) (P j)){L:List (V×Int)}(hL:Facets P N L){poly:V×Int->List Nat}(hp:∀ q∈L,bz P N q.1 q.2 (poly q))
include hl hL hp
end
end Geo
end
noncomputable section
namespace Geo
open V
def cmp(i:Nat)(v:V):Int:=if i=0 then v.x else if i=1 then v.y else v.z
def sm(i:Nat)(t:T3):Int:=cmp i t.1+cmp i t.2.1+cmp i t.2.2
def shift(d:V)(t:T3):T3:=(V.add t.1 d,V.add t.2.1 d,V.add t.2.2 d)
section
variable{P:Nat->V}{N:Nat}(hl:∀ i j,i<j->j<N->aC (P i) (P j)){L:List (V×Int)}(hL:Facets P N L){poly:V×Int->List Nat}(hp:∀ q∈L,bz P N q.1 q.2 (poly q))
include hl hL hp
end
end Geo
end
noncomputable section
namespace Sy
open Go Go.Proofs Geo
structure FIn(l:List V)(F:FL):Prop where
 len:F.length<=2000000
 ok:∀ f∈F,3<=f.2.length/\f.2.length<=100/\∀ j,j<f.2.length->f.2.getD j 0<l.length
def DZ(T:List T3)(N:Nat):Prop:=T.length<=N/\∀ t∈T,bd MV t.1/\bd MV t.2.1/\bd MV t.2.2
def DZ.append{S T:List T3}{M N:Nat}(h:DZ S M)(k:DZ T N):DZ (S++T) (M+N):=
 ⟨by rw[zta];have:=h.1;have:=k.1;omega,λt ht=>(List.mem_append.1 ht).elim (h.2 t) (k.2 t)⟩
def DZ.mono{T:List T3}{M N:Nat}(h:DZ T M)(k:M<=N):DZ T N:=⟨zDa h.1 k,h.2⟩
def gV{x:Int}{k:Nat}(hk:k<=511)(h:x.natAbs<=2^k):In x:=by
 obtain⟨m,hm⟩:∃ m,m=32*16:=⟨_,rfl⟩;exact aT.2 ((s7 hm).2 (zKa h (Nat.pow_lt_pow_right (by decide) (by omega))))
def bD{a b:Nat}{i j k:Nat}(ha:a<=2^i)(hb:b<=2^j)(h:i+j<=k):a*b<=2^k:=
 zDa (z2a ha hb) (by rw[<-zhb];exact zsa (by decide) h)
end Sy
end
noncomputable section
namespace Sy
open Go Go.Proofs Geo
def gk(x:V):List V->List V
 | []=>[x]
 | y::L=>if aC x y\/x=y then x::(y::L).filter (λz=>decide (z≠x)) else y::gk x L
def dn(l:List V):List V:=l.foldl (λo x=>gk x o) []
theorem yF(x:V):∀ L:List V,(gk x L).length<=L.length+1
 | []=>by simp[gk]
 | y::L=>by
  have:=yF x L;unfold gk;split
  ·rw[zza];have:=zjc (λz=>decide (z≠x)) (y::L);omega
  ·simp only[zza];omega
theorem s8{x z:V}:∀ {L:List V},z∈gk x L↔z=x\/z∈L
 | []=>by simp[gk]
 | y::L=>by
  have ih:=s8 (x:=x) (z:=z) (L:=L);unfold gk;split
  ·simp only[zva,zpc,decide_eq_true_eq];by_cases h:z=x<;>simp[h]
  ·simp only[zva,ih];constructor
   ·rintro(h|h|h)
    ·exact .inr (.inl h)
    ·exact .inl h
    ·exact .inr (.inr h)
   ·rintro(h|h|h)
    ·exact .inr (.inl h)
    ·exact .inl h
    ·exact .inr (.inr h)
theorem yG{x:V}:∀ {L:List V},L.Pairwise aC->(gk x L).Pairwise aC
 | [],_=>by simp[gk]
 | y::L,h=>by
  obtain⟨h1,h2⟩:=zCa.1 h;unfold gk;split
  ·rename_i hxy;refine zCa.2 ⟨λz hz=>?_,h.filter _⟩;obtain⟨hz1,hz2⟩:=zpc.1 hz;have hzx:z≠x:=by simpa using hz2
   rcases zva.1 hz1 with rfl|hz1
   ·rcases hxy with h|h
    ·exact h
    ·exact absurd h.symm hzx
   ·rcases hxy with h|h
    ·exact k9 h (h1 z hz1)
    ·rw[h];exact h1 z hz1
  ·rename_i hxy;refine zCa.2 ⟨λz hz=>?_,yG h2⟩;rcases s8.1 hz with rfl|hz
   ·rcases pE (a:=z) (b:=y) (λe=>hxy (.inr e)) with k|k
    ·exact absurd (.inl k) hxy
    ·exact k
   ·exact h1 z hz
def tN(l:List V):(dn l).Pairwise aC:=by
 unfold dn;have:∀ (l o:List V),o.Pairwise aC->(l.foldl (λo x=>gk x o) o).Pairwise aC:=by
  intro l
  induction l with
  | nil=>intro o h;exact h
  | cons x l ih=>intro o h;exact ih _ (yG h)
 exact this l [] .nil
def yT{l:List V}{z:V}:z∈dn l↔z∈l:=by
 unfold dn;have:∀ (l o:List V),z∈l.foldl (λo x=>gk x o) o↔z∈l\/z∈o:=by
  intro l
  induction l with
  | nil=>intro o;simp
  | cons x l ih=>
   intro o;rw[zfc,ih,s8,zva];constructor
   ·rintro(h|h|h)
    ·exact .inl (.inr h)
    ·exact .inl (.inl h)
    ·exact .inr h
   ·rintro((h|h)|h)
    ·exact .inr (.inl h)
    ·exact .inl h
    ·exact .inr (.inr h)
 rw[this];simp
def oK(l:List V):(dn l).length<=l.length:=by
 unfold dn;have:∀ (l o:List V),(l.foldl (λo x=>gk x o) o).length<=l.length+o.length:=by
  intro l
  induction l with
  | nil=>intro o;simp
  | cons x l ih=>
   intro o;have h1:=ih (gk x o);have h2:=yF x o;rw[zfc,zza];omega
 simpa using this l []
def Gr{l:List V}(h:l.Pairwise aC):Ev l:=λi j hij hj=>by
 have:=zAb.1 h i j (by omega) hj hij
 simpa [pt,List.getD,hj,show i<l.length by omega] using this
def JH{l:List V}(h:l.Pairwise aC):dn l=l:=
 mb (r:=aC) lU vc (tN l) h λx=>yT
def XZ(n:Nat)(l:List V)(hlen:l.length<=1000000):cA (n+2) 47 [a7 l]=some (a7 (dn l)):=by
 rw[Yo]
 delta OA qB qC qT qN qX qL qV qW qZ iL iR Jn
 have ll:(l.map ac).length=l.length:=zua ..;refine bk (λi s=>s=[a7 (dn (l.take i)),I (i:Int)]) l.length 0 (zma _) rfl (λi hi s hJ=>?_) (λs hJ=>?_)
 ·subst hJ;left;refine⟨[a7 (dn (l.take (i+1))),I ((i+1:Nat):Int)],?_,rfl⟩;have hs:dn (l.take (i+1))=gk (l.getD i V.zero) (dn (l.take i)):=by
   unfold dn;rw[zxa hi,List.foldl_append];simp[List.getD,hi]
  have hol:(dn (l.take i)).length<=1000000:=zDa (oK _) (by rw[zcb];omega)
  rw[hs];obtain⟨o,ho⟩:∃ o,dn (l.take i)=o:=⟨_,rfl⟩;obtain⟨x,hx⟩:∃ x,l.getD i V.zero=x:=⟨_,rfl⟩;have hxg:(l.map ac)[i]?=some (ac x):=by rw[<-hx];exact cZ hi
  rw[ho] at hol ⊢;rw[hx];have ol:(o.map ac).length=o.length:=zua ..;refine aa (z:=l.map ac) rfl (aa ah (aa ab (az (by show((i:Int)<((l.map ac).length:Int));rw[ll];omega) ?_)))
  refine bZ (λk s=>∃ (nx:List V) (put:Bool),s=[a7 o,a7 nx,.bool put,I (k:Int)]/\nx.length<=2*k/\(put=false->gk x o=nx++gk x (o.drop k))/\(put=true->gk x o=nx++(o.drop k).filter (λz=>decide (z≠x)))) o.length 0 (zma _) ⟨[],false,rfl,by simp,by simp,by simp⟩ (λk hk s hJ=>?_) (λs hJ=>?_)
  ·obtain⟨nx,put,rfl,hnl,h1,h2⟩:=hJ;left;have hd:o.drop k=o.getD k V.zero::o.drop (k+1):=by rw[zob hk];simp[List.getD,hk]
   have hyg:(o.map ac)[k]?=some (ac (o.getD k V.zero)):=cZ hk;obtain⟨y,hy⟩:∃ y,o.getD k V.zero=y:=⟨_,rfl⟩;rw[hy] at hd hyg;rw[hd] at h1 h2;obtain⟨n1,p1,he,q0,q1,q2⟩:∃ (n1:List V) (p1:Bool),(if put=false/\(aC x y\/x=y) then(nx++[x],true) else(nx,put))=(n1,p1)/\n1.length<=2*k+1/\(p1=false->x≠y/\gk x o=n1++y::gk x (o.drop (k+1)))/\(p1=true->gk x o=n1++(y::o.drop (k+1)).filter (λz=>decide (z≠x))):=by
    by_cases hp:put=false/\(aC x y\/x=y)
    ·refine⟨_,_,if_pos hp,by simp;omega,by simp,λ_=>?_⟩
     rw[h1 hp.1,gk,if_pos hp.2];simp
    ·refine⟨_,_,if_neg hp,by omega,λe=>?_,λe=>h2 e⟩
     have hn:¬ (aC x y\/x=y):=λh=>hp ⟨e,h⟩;refine⟨λh=>hn (.inr h),?_⟩;rw[h1 e,gk,if_neg hn]
   refine⟨[a7 o,a7 (if y≠x then n1++[y] else n1),.bool p1,I ((k+1:Nat):Int)],?_,_,p1,rfl,?_,?_,?_⟩
   ·refine aa ah (aa ab (az (by show((k:Int)<((o.map ac).length:Int));rw[ol];omega) ?_))
    have app:∀ (a:List V) (z:V),D.sl ((a.map ac)++[ac z])=a7 (a++[z]):=λa z=>by simp[a7]
    have al:∀ a:List V,(a.map ac).length=a.length:=λa=>zua ..;refine aa (z:=(0,[a7 o,a7 (if y≠x then n1++[y] else n1),.bool p1])) ?_ (aa (aq (au (i:=k) (by omega))) rfl)
    refine aa (z:=l.map ac) rfl (aa (z:=i) (by rw[ll];exact ap hi) (aa hxg (aa (z:=k) (by show D.idx (I (k:Int)) (o.map ac).length=_;rw[ol];exact ap hk) (aa hyg (aa (MT n x y) (aa (z:=(0,[a7 o,a7 n1,.bool p1])) ?_ ?_))))))
    ·refine aa (z:=.bool (!put)) rfl (aa ab (aa (z:=!put&&decide (aC x y\/x=y)) ?_ (aa ab ?_)))
     ·cases put
      ·rw[show(!false)=true from rfl,if_pos rfl];refine aa ab ?_;by_cases hlt:aC x y
       ·refine az hlt ?_;rw[decide_eq_true (.inl hlt)];rfl
       ·refine aG hlt ?_;refine aa (z:=l.map ac) rfl (aa (z:=i) (by rw[ll];exact ap hi) (aa hxg (aa (z:=k) (by show D.idx (I (k:Int)) (o.map ac).length=_;rw[ol];exact ap hk) (aa hyg ?_))))
        rw[iQ,ab];simp[hlt]
      ·rfl
     ·by_cases hp:put=false/\(aC x y\/x=y)
      ·rw[if_pos hp] at he;cases he;rw[show(!put&&decide (aC x y\/x=y))=true by rw[hp.1,decide_eq_true hp.2];rfl,if_pos rfl]
       refine aa (z:=l.map ac) rfl (aa (z:=i) (by rw[ll];exact ap hi) (aa hxg ?_))
       rw[if_pos (by show(nx.map ac).length+1<=1073741824;rw[al];omega)]
       rw[<-app];rfl
      ·rw[if_neg hp] at he;cases he;rw[show(!put&&decide (aC x y\/x=y))=false by
        cases hput:put
        ·have:¬ (aC x y\/x=y):=λh=>hp ⟨hput,h⟩;simp[this]
        ·rfl]
       rfl
    ·refine aa (z:=k) (by show D.idx (I (k:Int)) (o.map ac).length=_;rw[ol];exact ap hk) (aa hyg (aa (z:=l.map ac) rfl (aa (z:=i) (by rw[ll];exact ap hi) (aa hxg ?_))))
     rw[iQ];refine aa ab ?_;by_cases hyx:y=x
     ·rw[decide_eq_true hyx,if_neg (show ¬ (y≠x) from λh=>h hyx)];rfl
     ·rw[decide_eq_false hyx,if_pos (show y≠x from hyx),show(!false)=true from rfl,if_pos rfl];refine aa (z:=k) (by show D.idx (I (k:Int)) (o.map ac).length=_;rw[ol];exact ap hk) (aa hyg ?_)
      rw[if_pos (by show(n1.map ac).length+1<=1073741824;rw[al];omega)]
      rw[<-app];rfl
   ·split
    ·simp;omega
    ·omega
   ·intro e;obtain⟨r1,r2⟩:=q1 e;rw[if_pos (λh=>r1 h.symm),r2];simp
   ·intro e;rw[q2 e,List.filter_cons];by_cases hyx:y=x
    ·simp[hyx]
    ·simp[hyx]
  ·obtain⟨nx,put,rfl,hnl,h1,h2⟩:=hJ;refine⟨(0,[a7 nx,.bool put]),?_,?_⟩
   ·exact aa ah (aa ab (aG (by show ¬ ((o.length:Int)<((o.map ac).length:Int));rw[ol];omega) rfl))
   ·have al:∀ a:List V,(a.map ac).length=a.length:=λa=>zua ..;rw[z1c] at h1 h2;refine aa (z:=(0,[a7 (gk x o)])) ?_ (aa (aq (au (i:=i) (by omega))) rfl)
    refine aa (z:=.bool (!put)) rfl (aa ab ?_);cases put
    ·rw[show(!false)=true from rfl,if_pos rfl];refine aa (z:=l.map ac) rfl (aa (z:=i) (by rw[ll];exact ap hi) (aa hxg ?_))
     rw[if_pos (by show(nx.map ac).length+1<=1073741824;rw[al];omega)]
     rw[h1 rfl];simp[gk,a7,g0,D.els]
    ·have:=h2 rfl;simp only[List.filter_nil,zLb] at this;rw[this];rfl
 ·subst hJ;rw[z3a];refine⟨(0,[a7 (dn l)]),?_,rfl⟩;exact aa (z:=l.map ac) rfl (aa ah (aa ab (aG (by show ¬ ((l.length:Int)<((l.map ac).length:Int));rw[ll];omega) rfl)))
structure FOk(l:List V)(F:FL):Prop where
 ord:F.Pairwise (λa b=>aC a.1.1 b.1.1)
 ok:∀ f∈F,IsF (pt l) l.length f.1.1 f.1.2/\bz (pt l) l.length f.1.1 f.1.2 f.2
theorem li{f x:(V×Int)×List Nat}:∀ {L:FL},x∈kG f L↔x=f\/x∈L
 | []=>by simp[kG]
 | y::L=>by
  have ih:=li (f:=f) (x:=x) (L:=L);unfold kG;split
  ·simp
  ·simp only[zva,ih];constructor
   ·rintro(h|h|h)
    ·exact .inr (.inl h)
    ·exact .inl h
    ·exact .inr (.inr h)
   ·rintro(h|h|h)
    ·exact .inr (.inl h)
    ·exact .inl h
    ·exact .inr (.inr h)
theorem yE{f:(V×Int)×List Nat}:∀ {L:FL},L.Pairwise (λa b=>aC a.1.1 b.1.1)->(∀ x∈L,x.1.1≠f.1.1)->(kG f L).Pairwise (λa b=>aC a.1.1 b.1.1)
 | [],_,_=>by simp[kG]
 | y::L,h,hn=>by
  obtain⟨h1,h2⟩:=zCa.1 h;unfold kG;split
  ·rename_i k;refine zCa.2 ⟨λz hz=>?_,h⟩;rcases zva.1 hz with rfl|hz
   ·exact k
   ·exact k9 k (h1 z hz)
  ·rename_i k;refine zCa.2 ⟨λz hz=>?_,yE h2 λx hx=>hn x (zia _ hx)⟩;rcases li.1 hz with rfl|hz
   ·rcases pE (hn y zoa) with k'|k'
    ·exact k'
    ·exact absurd k' k
   ·exact h1 z hz
def By(l:List V):List (V×Int):=(List.range l.length).flatMap λi=>(List.range l.length).flatMap λj=>(List.range l.length).flatMap λk=>[(aE (eh (pt l) i j k),V.dot (aE (eh (pt l) i j k)) (pt l i)),((aE (eh (pt l) i j k)).neg,V.dot (aE (eh (pt l) i j k)).neg (pt l i))]
def CQ(l:List V)(h:l.length<=100):(By l).length<=2000000:=by
 unfold By;rw[mZ (c:=l.length*(l.length*2)) _ (λi _=>by rw[mZ (c:=l.length*2) _ (λj _=>by rw[mZ (c:=2) _ (λk _=>rfl),zQb]),zQb]),zQb]
 have a1:l.length*2<=200:=by omega
 have a2:l.length*(l.length*2)<=100*200:=z2a h a1;exact z2a h a2
def C7{l:List V}{q:V×Int}(h:IsF (pt l) l.length q.1 q.2):q∈By l:=by
 obtain⟨i,j,k,h1,h2,h3,h4,h5,h6⟩:=h.ex;refine zab.2 ⟨i,zNa.2 (by omega),zab.2 ⟨j,zNa.2 (by omega),zab.2 ⟨k,zNa.2 h3,?_⟩⟩⟩
 obtain⟨a,b⟩:=q;simp only at h5 h6;subst h6;rcases h5 with rfl|rfl<;>simp
def FOk.len{l:List V}{F:FL}(h:FOk l F)(hl:l.length<=100):F.length<=2000000:=by
 have nd:(F.map Prod.fst).Nodup:=by
  refine List.pairwise_map.2 (h.ord.imp λ{a b} hab e=>?_);rw[e] at hab;exact lU _ hab
 have:=z4b (l₂:=By l) nd λq hq=>by
  obtain⟨f,hf,rfl⟩:=z7a.1 hq;exact C7 (h.ok f hf).1
 rw[zua] at this;exact zDa this (CQ l hl)
def FOk.insert{l:List V}{F:FL}(h:FOk l F){f:(V×Int)×List Nat}(hn:∀ x∈F,x.1.1≠f.1.1)(h1:IsF (pt l) l.length f.1.1 f.1.2)(h2:bz (pt l) l.length f.1.1 f.1.2 f.2):FOk l (kG f F):=
 ⟨yE h.ord hn,λx hx=>by
  rcases li.1 hx with rfl|hx
  ·exact⟨h1,h2⟩
  ·exact h.ok x hx⟩
def nl{v:V}:aE v=V.zero↔v=V.zero:=by
 constructor
 ·intro h;by_cases hv:v=V.zero
  ·exact hv
  ·exact absurd h (rA hv)
 ·rintro rfl;apply V.ext'<;>simp[aE,V.zero]
def Dm{v:V}:v.neg=V.zero↔v=V.zero:=by
 constructor
 ·intro h;by_cases hv:v=V.zero
  ·exact hv
  ·exact absurd h (FO hv)
 ·rintro rfl;apply V.ext'<;>simp[V.neg,V.zero]
def av{α β:Type}{A:Option α}{g:α->Option β}{z:α}{Y:β->Prop}(h:A=some z)(hk:∃ y,g z=some y/\Y y):∃ y,Option.bind A g=some y/\Y y:=by
 rw[h];exact hk
def iW{β:Type}{p:Prop}[Decidable p]{A B:Option β}{Y:β->Prop}(h:p)(hA:∃ y,A=some y/\Y y):∃ y,(if decide p=true then A else B)=some y/\Y y:=by rw[if_pos (decide_eq_true h)];exact hA
def BK{β:Type}{p:Prop}[Decidable p]{A B:Option β}{Y:β->Prop}(h:¬ p)(hA:∃ y,B=some y/\Y y):∃ y,(if decide p=true then A else B)=some y/\Y y:=by rw[if_neg (by simpa using h)];exact hA
def GF(n:Nat){l:List V}(hl:∀ x∈l,bd MV x)(hlen:l.length<=100)(hs:Ev l){F:FL}(hF:FOk l F){i j k:Nat}(hij:i<j)(hjk:j<k)(hk:k<l.length){m:V}(hm:m=aE (eh (pt l) i j k)\/m=(aE (eh (pt l) i j k)).neg){α:Type}{g:D->Nat×List D->Option α}{Y:α->Prop}
  (hg:∀ F':FL,FOk l F'->(∀ f∈F,f∈F')->(eh (pt l) i j k≠V.zero->zY (pt l) l.length m (V.dot m (pt l i))->(m,V.dot m (pt l i))∈F'.map Prod.fst)->∃ y,g (I (V.dot m (pt l i))) (0,[.sl (aK F')])=some y/\Y y) :
  ∃ y,(Option.bind (cA (n+4) 107 [ac m,ac (pt l i)]) λr31=>
  Option.bind (cA (n+4) 108 [.sl (aK F),ac m]) λr32=>
  Option.bind (Option.bind (D.un .not r32) λx33=>
  Option.bind (D.truth x33) λb34=>
  Option.bind (if b34 then(Option.bind (D.un .not (D.bool (D.beq (ac m) (D.st [(D.int .i64 0),(D.int .i64 0),(D.int .i64 0)])))) λx35=>
  D.truth x35) else(some false)) λb36=>
  Option.bind (D.truth (D.bool b36)) λb37=>
  Option.bind (if b37 then(Option.bind (cA (n+4) 109 [a7 l,ac m,r31]) λr38=>
  D.truth r38) else(some false)) λb39=>
  Option.bind (D.truth (D.bool b39)) λb40=>
  if b40 then(Option.bind (cA (n+4) 111 [a7 l,ac m,r31]) λr41=>
  Option.bind (cA (n+4) 110 [.sl (aK F),(D.st [ac m,r31,r41])]) λr42=>
  some (0,[r42])) else(some (0,[.sl (aK F)]))) (g r31))=some y/\Y y:=by
 have hi:i<l.length:=by omega
 have bt:bd 549755813888 (aE (eh (pt l) i j k)):=dT (gX (mC (P:=pt l) (hl _ (cu hi)) (hl _ (cu (show j<l.length by omega)))) (mC (P:=pt l) (hl _ (cu hi)) (hl _ (cu hk))))
 have bm:bd 549755813888 m:=by
  rcases hm with rfl|rfl
  ·exact bt
  ·exact oW bt
 have hFl:=hF.len hlen;have hmz:m=V.zero↔eh (pt l) i j k=V.zero:=by
  rcases hm with rfl|rfl
  ·exact nl
  ·rw[Dm,nl]
 refine av (CK (n+3) bm (hl _ (cu hi)) (by decide)) (av (Tb (n+3) F m (by omega)) ?_)
 obtain⟨d,hd⟩:∃ d,V.dot m (l.getD i V.zero)=d:=⟨_,rfl⟩;have hdp:V.dot m (pt l i)=d:=hd;rw[hdp] at hg;rw[hdp];by_cases hkn:(F.any λf=>decide (f.1.1=m))=true
 ·rw[hkn];refine av (z:=(0,[.sl (aK F)])) (aa (z:=.bool false) rfl (aa (z:=false) rfl (aa (z:=false) rfl (aa (z:=false) rfl (aa (z:=false) rfl (aa (z:=false) rfl rfl)))))) (hg F hF (λf hf=>hf) λht hsp=>?_);obtain⟨f,hf,hfm⟩:=z7b.1 hkn;have hfm:f.1.1=m:=by simpa using hfm
  have h1:=(hF.ok f hf).1;rw[hfm] at h1;have h2:IsF (pt l) l.length m d:=⟨⟨i,j,k,hij,hjk,hk,ht,hm,hdp.symm⟩,hsp⟩;exact z7a.2 ⟨f,hf,Prod.ext hfm (IsF.d_eq h1 h2)⟩
 ·rw[Bool.not_eq_true] at hkn;rw[hkn];have hnk:∀ f∈F,f.1.1≠m:=λf hf e=>by
   have:=List.any_eq_false.1 hkn f hf;simp[e] at this
  by_cases hz:m=V.zero
  ·refine av (z:=(0,[.sl (aK F)])) (aa (z:=.bool true) rfl (aa (z:=true) rfl (aa (z:=false) ?_ (aa (z:=false) rfl (aa (z:=false) rfl (aa (z:=false) rfl rfl)))))) (hg F hF (λf hf=>hf) λht hsp=>absurd (hmz.1 hz) ht);rw[if_pos rfl,ss,iQ,decide_eq_true (show m=⟨0,0,0⟩ from hz)];rfl
  ·have ht:eh (pt l) i j k≠V.zero:=λe=>hz (hmz.2 e);have hc:=Tc (n+2) (d:=d) hl bm (by decide) (by omega)
   by_cases hsp:supp l (m,d)=true
   ·have hFm:IsF (pt l) l.length m d:=⟨⟨i,j,k,hij,hjk,hk,ht,hm,hdp.symm⟩,oM.1 hsp⟩;obtain⟨p,hp,_,_⟩:=hFm.poly hs;refine av (z:=(0,[.sl (aK (kG ((m,d),p) F))])) (aa (z:=.bool true) rfl (aa (z:=true) rfl (aa (z:=true) ?_ (aa (z:=true) rfl (aa (z:=true) ?_ (aa (z:=true) rfl ?_)))))) (hg _ (hF.insert hnk hFm hp) (λf hf=>li.2 (.inr hf)) λ_ _=>z7a.2 ⟨((m,d),p),li.2 (.inl rfl),rfl⟩)
    ·rw[if_pos rfl,ss,iQ,decide_eq_false (show ¬ m=⟨0,0,0⟩ from hz)];rfl
    ·rw[if_pos rfl];refine aa hc ?_;rw[ab];exact congrArg some hsp
    ·rw[if_pos rfl];exact aa (Ue n hl hlen hs hFm bm hp) (aa (Td (n+2) F ((m,d),p) (by omega)) rfl)
   ·refine av (z:=(0,[.sl (aK F)])) (aa (z:=.bool true) rfl (aa (z:=true) rfl (aa (z:=true) ?_ (aa (z:=true) rfl (aa (z:=false) ?_ (aa (z:=false) rfl rfl)))))) (hg F hF (λf hf=>hf) λ_ hsp'=>absurd (oM.2 hsp') hsp)
    ·rw[if_pos rfl,ss,iQ,decide_eq_false (show ¬ m=⟨0,0,0⟩ from hz)];rfl
    ·rw[if_pos rfl];refine aa hc ?_;rw[ab];exact congrArg some (zXb.2 hsp)
structure KnF(l:List V)(i j k:Nat)(F:FL):Prop where
 fok:FOk l F
 all:∀ i' j' k',i'<j'->j'<k'->k'<l.length->(i'<i\/i'=i/\(j'<j\/j'=j/\k'<k))->eh (pt l) i' j' k'≠V.zero->∀ m,(m=aE (eh (pt l) i' j' k')\/m=(aE (eh (pt l) i' j' k')).neg)->zY (pt l) l.length m (V.dot m (pt l i'))->(m,V.dot m (pt l i'))∈F.map Prod.fst
def KnF.mono{l:List V}{i j k i2 j2 k2:Nat}{F:FL}(h:KnF l i j k F)(hm:∀ i' j' k',i'<j'->j'<k'->k'<l.length->(i'<i2\/i'=i2/\(j'<j2\/j'=j2/\k'<k2))->(i'<i\/i'=i/\(j'<j\/j'=j/\k'<k))):KnF l i2 j2 k2 F:=
 ⟨h.fok,λi' j' k' h1 h2 h3 h4=>h.all i' j' k' h1 h2 h3 (hm i' j' k' h1 h2 h3 h4)⟩
def KnF.facets{l:List V}{F:FL}(h:KnF l l.length 0 0 F):Facets (pt l) l.length (F.map Prod.fst):=by
 refine⟨List.pairwise_map.2 h.fok.ord,λq=>⟨λhq=>?_,λhq=>?_⟩⟩
 ·obtain⟨f,hf,rfl⟩:=z7a.1 hq;exact(h.fok.ok f hf).1
 ·obtain⟨⟨i,j,k,h1,h2,h3,c1,c2,c3⟩,hs⟩:=hq;obtain⟨m,d⟩:=q;simp only at c2 c3 hs;subst c3;exact h.all i j k h1 h2 h3 (.inl (by omega)) c1 m c2 hs
end Sy
end
noncomputable section
namespace Sy
open Go Go.Proofs Geo
def mt(p:V):Nat->V
 | 0=>p
 | 1=>p.neg
 | _=>p
def VR(n:Nat){l:List V}(hl:∀ x∈l,bd MV x)(hlen:l.length<=100)(hs:Ev l):∃ F:FL,KnF l l.length 0 0 F/\cA (n+7) 48 [a7 l]=some (.sl (aK F)):=by
 suffices h:∃ y,cA (n+7) 48 [a7 l]=some y/\∃ F:FL,KnF l l.length 0 0 F/\y=.sl (aK F) by
  obtain⟨y,h1,F,h2,rfl⟩:=h;exact⟨F,h2,h1⟩
 rw[Yp]
 delta OB qB qC qT qN qX qL qZ iL iR Jn
 have ll:(l.map ac).length=l.length:=zua ..;refine oo (λi s=>∃ F:FL,s=[.sl (aK F),I (i:Int)]/\KnF l i 0 0 F) l.length 0 (zma _) ⟨[],rfl,⟨.nil,by simp⟩,λi' j' k' h1 h2 h3 h4=>by omega⟩ (λi hi s hJ=>?_) (λs hJ=>?_)
 ·obtain⟨F,rfl,hF⟩:=hJ;refine av (z:=l.map ac) rfl (av ah (av ab (iW (by show((i:Int)<((l.map ac).length:Int));rw[ll];omega) (av (aq (au (i:=i) (by omega))) ?_))))
  refine oo (λj s=>i+1<=j/\∃ F:FL,s=[.sl (aK F),I (j:Int)]/\KnF l i j 0 F) l.length (i+1) (by omega) ⟨zha _,F,rfl,hF.mono λi' j' k' h1 h2 h3 h4=>by omega⟩ (λj hj s hJ=>?_) (λs hJ=>?_)
  ·obtain⟨hij,F,rfl,hF⟩:=hJ;refine av (z:=l.map ac) rfl (av ah (av ab (iW (by show((j:Int)<((l.map ac).length:Int));rw[ll];omega) (av (aq (au (i:=j) (by omega))) ?_))))
   refine oo (λk s=>j+1<=k/\∃ F:FL,s=[.sl (aK F),I (k:Int)]/\KnF l i j k F) l.length (j+1) (by omega) ⟨zha _,F,rfl,hF.mono λi' j' k' h1 h2 h3 h4=>by omega⟩ (λk hk s hJ=>?_) (λs hJ=>?_)
   ·obtain⟨hjk,F,rfl,hF⟩:=hJ;refine av (z:=l.map ac) rfl (av ah (av ab (iW (by show((k:Int)<((l.map ac).length:Int));rw[ll];omega) ?_)))
    refine av (z:=l.map ac) rfl (av (z:=i) (by rw[ll];exact ap hi) (av (cZ hi) (av (z:=l.map ac) rfl (av (z:=j) (by rw[ll];exact ap hj) (av (cZ hj) (av (z:=l.map ac) rfl (av (z:=k) (by rw[ll];exact ap hk) (av (cZ hk) (av (z:=ac (aE (eh (pt l) i j k))) (Ta n (hl _ (cu hi)) (hl _ (cu hj)) (hl _ (cu hk))) ?_)))))))))
    have bt:bd 549755813888 (aE (eh (pt l) i j k)):=dT (gX (mC (P:=pt l) (hl _ (cu hi)) (hl _ (cu hj))) (mC (P:=pt l) (hl _ (cu hi)) (hl _ (cu hk))));obtain⟨p,hp⟩:∃ p,aE (eh (pt l) i j k)=p:=⟨_,rfl⟩;rw[hp] at bt ⊢;have z0:bd 0 V.zero:=by simp only[bd,V.zero];omega
    have e1:V.zero.sub p=p.neg:=by apply V.ext'<;>simp[V.sub,V.neg,V.zero]
    have e2:V.zero.sub p.neg=p:=by apply V.ext'<;>simp[V.sub,V.neg,V.zero]
    refine oo (λt s=>∃ F':FL,s=[.sl (aK F'),I (t:Int),ac (mt p t)]/\FOk l F'/\(∀ f∈F,f∈F')/\(1<=t->eh (pt l) i j k≠V.zero->zY (pt l) l.length p (V.dot p (pt l i))->(p,V.dot p (pt l i))∈F'.map Prod.fst)/\(2<=t->eh (pt l) i j k≠V.zero->zY (pt l) l.length p.neg (V.dot p.neg (pt l i))->(p.neg,V.dot p.neg (pt l i))∈F'.map Prod.fst)) 2 0 (by omega) ⟨F,rfl,hF.fok,λf hf=>hf,λh=>by omega,λh=>by omega⟩ (λt ht s hJ=>?_) (λs hJ=>?_)
    ·obtain⟨F',rfl,f1,f2,f3,f4⟩:=hJ;refine av ah (av ab (iW (by show((t:Int)<2);omega) (av (z:=l.map ac) rfl (av (z:=i) (by rw[ll];exact ap hi) (av (cZ hi) ?_)))))
     have ht':t=0\/t=1:=by omega
     simp only[g0,g1,g2];rcases ht' with rfl|rfl
     ·rw[show mt p 0=p from rfl];refine GF (n+2) hl hlen hs f1 (show i<j by omega) (show j<k by omega) hk (m:=p) (.inl hp.symm) (λF2 k1 k2 k3=>?_)
      refine⟨.inl [.sl (aK F2),I ((0+1:Nat):Int),ac p.neg],?_,?_⟩
      ·refine aa (z:=ac p.neg) ?_ ?_
       ·have:=CL (n+5) z0 bt (by decide)
        rw[e1] at this;exact this
       ·exact aa (aq Ke) rfl
      ·exact⟨F2,rfl,k1,λf hf=>k2 f (f2 f hf),λ_=>k3,λh=>by omega⟩
     ·rw[show mt p 1=p.neg from rfl];refine GF (n+2) hl hlen hs f1 (show i<j by omega) (show j<k by omega) hk (m:=p.neg) (.inr (by rw[hp])) (λF2 k1 k2 k3=>?_)
      refine⟨.inl [.sl (aK F2),I ((1+1:Nat):Int),ac p],?_,F2,rfl,k1,λf hf=>k2 f (f2 f hf),λ_ h1 h2=>?_,λ_=>k3⟩
      ·refine aa (z:=ac p) ?_ ?_
       ·have:=CL (n+5) z0 (oW bt) (by decide)
        rw[e2] at this;exact this
       ·exact aa (aq rq) rfl
      ·obtain⟨f,hf,e⟩:=z7a.1 (f3 (zha _) h1 h2);exact z7a.2 ⟨f,k2 f hf,e⟩
    ·obtain⟨F',rfl,f1,f2,f3,f4⟩:=hJ;refine⟨.inr (0,[.sl (aK F')]),aa ah (aa ab (aG (by decide) rfl)),.inl [.sl (aK F'),I ((k+1:Nat):Int)],aa (aq (au (i:=k) (by omega))) rfl,by omega,F',rfl,f1,λi' j' k' h1 h2 h3 h4 h5 m h6 h7=>?_⟩
     by_cases e:i'=i/\j'=j/\k'=k
     ·obtain⟨rfl,rfl,rfl⟩:=e;rw[hp] at h6;rcases h6 with rfl|rfl
      ·exact f3 (by omega) h5 h7
      ·exact f4 (by omega) h5 h7
     ·obtain⟨f,hf,e⟩:=z7a.1 (hF.all i' j' k' h1 h2 h3 (by omega) h5 m h6 h7)
      exact z7a.2 ⟨f,f2 f hf,e⟩
   ·obtain⟨hjk,F,rfl,hF⟩:=hJ;refine⟨.inr (0,[.sl (aK F)]),?_,.inl [.sl (aK F),I ((j+1:Nat):Int)],aa (aq (au (i:=j) (by omega))) rfl,by omega,F,rfl,hF.mono λi' j' k' h1 h2 h3 h4=>by omega⟩
    exact aa (z:=l.map ac) rfl (aa ah (aa ab (aG (by show ¬ ((l.length:Int)<((l.map ac).length:Int));rw[ll];omega) rfl)))
  ·obtain⟨hij,F,rfl,hF⟩:=hJ;refine⟨.inr (0,[.sl (aK F)]),?_,.inl [.sl (aK F),I ((i+1:Nat):Int)],aa (aq (au (i:=i) (by omega))) rfl,F,rfl,hF.mono λi' j' k' h1 h2 h3 h4=>by omega⟩
   exact aa (z:=l.map ac) rfl (aa ah (aa ab (aG (by show ¬ ((l.length:Int)<((l.map ac).length:Int));rw[ll];omega) rfl)))
 ·obtain⟨F,rfl,hF⟩:=hJ;refine⟨.inr (0,[.sl (aK F)]),?_,.sl (aK F),rfl,F,hF,rfl⟩;exact aa (z:=l.map ac) rfl (aa ah (aa ab (aG (by show ¬ ((l.length:Int)<((l.map ac).length:Int));rw[ll];omega) rfl)))
end Sy
end
noncomputable section
namespace Sy
open Go Go.Proofs Geo
def aL(l:List V):(l.map ac).length=l.length:=zua ..
def XW(n:Nat)(a b:List V)(ha:a.length<=1000000):cA (n+1) 13 [a7 a,a7 b]=some (.bool (decide (a=b))):=by
 rw[Ye]
 delta Oo qB qT qS qX qL qZ iL iR Jn
 refine aa (z:=a.map ac) rfl (aa (z:=b.map ac) rfl ?_);rw[aL,aL,cd];by_cases hab:a.length=b.length
 ·rw[decide_eq_true hab];refine aa (z:=false) rfl ?_;rw[if_neg (by decide)]
  refine bk (λi s=>s=[I (i:Int)]/\a.take i=b.take i) a.length 0 (zma _) ⟨rfl,by simp⟩ (λi hi s hJ=>?_) (λs hJ=>?_)
  ·obtain⟨rfl,hz⟩:=hJ;have hib:i<b.length:=by omega
   have pre:∀ z,(Option.bind (D.truth (D.bool (!(D.beq (ac (a.getD i V.zero)) (ac (b.getD i V.zero)))))) λb14=>
     if b14 then(some (Sum.inr (0,[(D.bool false)]))) else(Option.bind (D.bin .add (I (i:Int)) (D.int .i64 1)) λx15=>some (Sum.inl [x15])))=some z ->
     (Option.bind (D.asSl (a7 a)) λl5=>Option.bind (D.bin .lss (I (i:Int)) (D.int .i64 (List.length l5))) λx6=>Option.bind (D.truth x6) λb7=>
     if b7 then(Option.bind (D.asSl (a7 a)) λl8=>Option.bind (D.idx (I (i:Int)) (List.length l8)) λi9=>Option.bind (l8[i9]?) λx10=>Option.bind (D.asSl (a7 b)) λl11=>Option.bind (D.idx (I (i:Int)) (List.length l11)) λrq=>Option.bind (l11[rq]?) λx13=>
     Option.bind (D.truth (D.bool (!(D.beq x10 x13)))) λb14=>
     if b14 then(some (Sum.inr (0,[(D.bool false)]))) else(Option.bind (D.bin .add (I (i:Int)) (D.int .i64 1)) λx15=>some (Sum.inl [x15]))) else(some (Sum.inr (1,[]):Sum (List D) (Nat×List D))))=some z:=λz hz=>
    aa (z:=a.map ac) rfl (aa ah (aa ab (az (by show((i:Int)<((a.map ac).length:Int));rw[aL];omega) (aa (z:=a.map ac) rfl (aa (z:=i) (by rw[aL];exact ap hi) (aa (cZ hi) (aa (z:=b.map ac) rfl (aa (z:=i) (by rw[aL];exact ap hib) (aa (cZ hib) hz)))))))))
   rw[iQ] at pre;by_cases he:a.getD i V.zero=b.getD i V.zero
   ·left;refine⟨[I ((i+1:Nat):Int)],pre _ ?_,rfl,?_⟩
    ·rw[decide_eq_true he];refine aa (z:=false) rfl ?_;rw[if_neg (by decide)]
     exact aa (aq (au (i:=i) (by omega))) rfl
    ·rw[zxa hi,zxa hib,hz];simp only[List.getD,hi,hib,zda,zxb] at he;rw[he]
   ·right;refine⟨(0,[.bool false]),pre _ ?_,?_⟩
    ·rw[decide_eq_false he];rfl
    ·rw[decide_eq_false (λe=>he (by rw[e]))];rfl
  ·obtain⟨rfl,hz⟩:=hJ;refine⟨(1,[]),?_,?_⟩
   ·exact aa (z:=a.map ac) rfl (aa ah (aa ab (aG (by show ¬ ((a.length:Int)<((a.map ac).length:Int));rw[aL];omega) rfl)))
   ·rw[z3a,hab,z3a] at hz;rw[decide_eq_true hz];rfl
 ·rw[decide_eq_false hab,decide_eq_false (λe=>hab (by rw[e]))]
  rfl
instance decBd (k:Int) (v:V):Decidable (bd k v):=by unfold bd;exact inferInstance
def nQ(v:V):Nat->Int
 | 0=>v.x
 | 1=>v.y
 | _=>v.z
def Fc(v:V){t:Nat}(h:t<3):D.fld (ac v) t=some (I (nQ v t)):=by
 have:t=0\/t=1\/t=2:=by omega
 rcases this with rfl|rfl|rfl<;>rfl
def Bq{v:V}:bd MV v↔∀ t,t<3->¬ (nQ v t>262144)/\¬ (nQ v t < -262144):=by
 constructor
 ·intro h t ht;have:t=0\/t=1\/t=2:=by omega
  simp only[bd,MV] at h;rcases this with rfl|rfl|rfl<;>simp only[nQ]<;>omega
 ·intro h;have h0:=h 0 (by decide);have h1:=h 1 (by decide);have h2:=h 2 (by decide)
  simp only[nQ] at h0 h1 h2;simp only[bd,MV];omega
def iY(F:FL)(i:Nat):Bool:=F.any λf=>f.2.any λx=>decide (x=i)
def cW(S:List V)(F:FL)(k:Nat):List V:=((List.range k).filter (iY F)).map (pt S)
def Ba(S:List V)(F:FL)(k:Nat):cW S F (k+1)=if iY F k then cW S F k++[pt S k] else cW S F k:=by
 unfold cW;rw[z1b,List.filter_append];by_cases h:iY F k=true<;>simp[h]
def wc(S:List V)(F:FL)(k:Nat):(cW S F k).length<=k:=by
 unfold cW;rw[zua];exact zDa (zjc _ _) (by simp)
def An(e:Int):D:=.st [.st [.sl []],I e]
def BO(S:List V)(F:FL):D:=if F.length=0 then An 120 else if F.length>64 then An 2 else .st [.st [a7 (cW S F S.length)],I 0]
def Iz(n:Nat){l:List V}(h:64<l.length):cA (n+1) 12 [a7 l]=some (An 2):=by
 rw[Uz]
 delta L0 qB qC qT qS qX qL qV qW qZ iL iR Jn
 exact aa (z:=l.map ac) rfl (aa cV (aa ab (az (by show((l.map ac).length:Int)>64;rw[aL];omega) rfl)))
def Lu{l:List V}{i:Nat}(hi:i<l.length){α:Type}{k:Nat×List D->Option α}{y:α}(hy:k (if bd MV (l.getD i V.zero) then(1,[.sl [],I 0]) else(0,[.sl [],I 1]))=some y) :
  Option.bind (aO (λ(v8:List D)=>
 Option.bind (D.bin .lss (gx v8 0) (D.int .i64 3)) λx9=>
 Option.bind (D.truth x9) λb10=>
 if b10 then(Option.bind (D.asSl (a7 l)) λl11=>
 Option.bind (D.idx (I (i:Int)) (List.length l11)) λrq=>
 Option.bind (l11[rq]?) λx13=>
 Option.bind (D.idx (gx v8 0) 3) λi14=>
 Option.bind (D.fld x13 i14) λx15=>
 Option.bind (D.bin .gtr x15 (D.int .i64 262144)) λx16=>
 Option.bind (D.truth x16) λb17=>
 Option.bind (if b17 then(some true) else(Option.bind (D.asSl (a7 l)) λl18=>
 Option.bind (D.idx (I (i:Int)) (List.length l18)) λi19=>
 Option.bind (l18[i19]?) λx20=>
 Option.bind (D.idx (gx v8 0) 3) λi21=>
 Option.bind (D.fld x20 i21) λx22=>
 Option.bind (D.bin .lss x22 (D.int .i64 (-262144))) λx23=>
 D.truth x23)) λb24=>
 Option.bind (D.truth (D.bool b24)) λb25=>
 if b25 then(some (Sum.inr (0,[(D.sl []),(D.int .i64 1)]))) else(Option.bind (D.bin .add (gx v8 0) (D.int .i64 1)) λx26=>
 some (Sum.inl [x26,(D.sl (D.els (gx v8 1))),(gx v8 2)]))) else(some (Sum.inr (1,[(D.sl (D.els (gx v8 1))),(gx v8 2)])))) [(D.int .i64 0),.sl [],I 0]) k=some y:=by
 refine bZ (λt s=>s=[I (t:Int),.sl [],I 0]/\∀ t',t'<t->¬ (nQ (l.getD i V.zero) t'>262144)/\¬ (nQ (l.getD i V.zero) t' < -262144)) 3 0 (by decide) ⟨rfl,λt' h=>by omega⟩ (λt ht s hJ=>?_) (λs hJ=>?_)
 ·obtain⟨rfl,hz⟩:=hJ;have hf:=Fc (l.getD i V.zero) ht;have ix:D.idx (I (t:Int)) 3=some t:=ap ht;have pre:∀ z,(if decide (nQ (l.getD i V.zero) t>262144\/nQ (l.getD i V.zero) t < -262144)=true then(some (Sum.inr (0,[(D.sl []),(D.int .i64 1)]))) else(Option.bind (D.bin .add (I (t:Int)) (D.int .i64 1)) λx26=>some (Sum.inl [x26,.sl [],I 0])))=some z->_:=λ(z:Sum (List D) (Nat×List D)) hz'=>
   aa (g:=λx9=>Option.bind (D.truth x9) λb10=>if b10 then(Option.bind (D.asSl (a7 l)) λl11=>Option.bind (D.idx (I (i:Int)) (List.length l11)) λrq=>Option.bind (l11[rq]?) λx13=>Option.bind (D.idx (I (t:Int)) 3) λi14=>Option.bind (D.fld x13 i14) λx15=>Option.bind (D.bin .gtr x15 (D.int .i64 262144)) λx16=>Option.bind (D.truth x16) λb17=>
    Option.bind (if b17 then(some true) else(Option.bind (D.asSl (a7 l)) λl18=>Option.bind (D.idx (I (i:Int)) (List.length l18)) λi19=>Option.bind (l18[i19]?) λx20=>Option.bind (D.idx (I (t:Int)) 3) λi21=>Option.bind (D.fld x20 i21) λx22=>Option.bind (D.bin .lss x22 (D.int .i64 (-262144))) λx23=>D.truth x23)) λb24=>
    Option.bind (D.truth (D.bool b24)) λb25=>
    if b25 then(some (Sum.inr (0,[(D.sl []),(D.int .i64 1)]))) else(Option.bind (D.bin .add (I (t:Int)) (D.int .i64 1)) λx26=>some (Sum.inl [x26,.sl [],I 0]))) else(some (Sum.inr (1,[.sl [],I 0]))))
    (ah (a:=(t:Int)) (b:=3)) (y:=z) (aa ab (az (by omega) (aa (z:=l.map ac) rfl (aa (z:=i) (by rw[aL];exact ap hi) (aa (cZ hi) (aa ix (aa hf (aa cV (aa ab (aa (z:=decide (nQ (l.getD i V.zero) t>262144\/nQ (l.getD i V.zero) t < -262144)) (by
     by_cases h1:nQ (l.getD i V.zero) t>262144
     ·refine az h1 ?_;rw[decide_eq_true (.inl h1)]
     ·refine aG h1 (aa (z:=l.map ac) rfl (aa (z:=i) (by rw[aL];exact ap hi) (aa (cZ hi) (aa ix (aa hf (aa ah ?_))))))
      rw[ab];congr 1;rw[decide_eq_decide];exact⟨.inr,λh=>h.resolve_left h1⟩) (aa ab hz')))))))))))
  by_cases hb:nQ (l.getD i V.zero) t>262144\/nQ (l.getD i V.zero) t < -262144
  ·right;refine⟨_,pre _ (az hb rfl),?_⟩;rw[if_neg (λh=>by have:=Bq.1 h t ht;omega)] at hy
   exact hy
  ·left;refine⟨[I ((t+1:Nat):Int),.sl [],I 0],pre _ (aG hb (aa (aq (au (i:=t) (by omega))) rfl)),rfl,λt' ht'=>?_⟩
   by_cases e:t'=t
   ·subst e;omega
   ·exact hz t' (by omega)
 ·obtain⟨rfl,hz⟩:=hJ;refine⟨(1,[.sl [],I 0]),aa ah (aa ab (aG (by decide) rfl)),?_⟩
  rw[if_pos (Bq.2 hz)] at hy;exact hy
def Iy(n:Nat){l:List V}(hlen:l.length<=64)(hb:¬ ∀ x∈l,bd MV x):cA (n+1) 12 [a7 l]=some (An 1):=by
 rw[Uz]
 delta L0 qB qC qT qS qX qL qV qW qZ iL iR Jn
 refine aa (z:=l.map ac) rfl (aa cV (aa ab (aG (by show ¬ ((l.map ac).length:Int)>64;rw[aL];omega) ?_)))
 refine bk (λi s=>s=[I (i:Int),.sl [],I 0]/\∀ x∈l.take i,bd MV x) l.length 0 (zma _) ⟨rfl,by simp⟩ (λi hi s hJ=>?_) (λs hJ=>?_)
 ·obtain⟨rfl,hz⟩:=hJ;by_cases hx:bd MV (l.getD i V.zero)
  ·left;refine⟨[I ((i+1:Nat):Int),.sl [],I 0],?_,rfl,λx hx'=>?_⟩
   ·refine aa (z:=l.map ac) rfl (aa ah (aa ab (az (by show((i:Int)<((l.map ac).length:Int));rw[aL];omega) (Lu hi ?_))))
    rw[if_pos hx,if_neg (show ¬ (1:Nat)=0 by decide)]
    exact aa (aq (au (i:=i) (by omega))) rfl
   ·rw[zxa hi] at hx';rcases List.mem_append.1 hx' with h|h
    ·exact hz x h
    ·rw[zHa.1 h];simpa [List.getD,hi] using hx
  ·right;refine⟨(0,[.sl [],I 1]),?_,rfl⟩;refine aa (z:=l.map ac) rfl (aa ah (aa ab (az (by show((i:Int)<((l.map ac).length:Int));rw[aL];omega) (Lu hi ?_))))
   rw[if_neg hx];rfl
 ·obtain⟨rfl,hz⟩:=hJ;rw[z3a] at hz;exact absurd hz hb
def EK(n:Nat){l:List V}(hlen:l.length<=64)(hl:∀ x∈l,bd MV x){F:FL}(hpl:∀ f∈F,f.2.length<=1000000)(hFl:F.length<=3000000)(h48:cA (n+2) 48 [a7 (dn l)]=some (.sl (aK F))):cA (n+3) 12 [a7 l]=some (BO (dn l) F):=by
 rw[Uz]
 delta L0 qB qC qT qS qX qL qV qW qZ iL iR Jn
 refine aa (z:=l.map ac) rfl (aa cV (aa ab (aG (by show ¬ ((l.map ac).length:Int)>64;rw[aL];omega) ?_)))
 refine bk (λi s=>s=[I (i:Int),.sl [],I 0]) l.length 0 (zma _) rfl (λi hi s hJ=>?_) (λs hJ=>?_)
 ·subst hJ;left;refine⟨[I ((i+1:Nat):Int),.sl [],I 0],?_,rfl⟩;refine aa (z:=l.map ac) rfl (aa ah (aa ab (az (by show((i:Int)<((l.map ac).length:Int));rw[aL];omega) (Lu hi ?_))))
  rw[if_pos (hl _ (cu hi)),if_neg (show ¬ (1:Nat)=0 by decide)]
  exact aa (aq (au (i:=i) (by omega))) rfl
 ·subst hJ;refine⟨(1,[.sl [],I 0]),aa (z:=l.map ac) rfl (aa ah (aa ab (aG (by show ¬ ((l.length:Int)<((l.map ac).length:Int));rw[aL];omega) rfl))),?_⟩
  rw[if_neg (show ¬ (1:Nat)=0 by decide)]
  have hSl:=zDa (oK l) hlen;refine aa (XZ n l (by omega)) (aa h48 (aa (z:=aK F) rfl ?_))
  obtain⟨S,hS⟩:∃ S,dn l=S:=⟨_,rfl⟩;rw[hS] at hSl ⊢;rw[bh,show D.beq (D.int .i64 (F.length:Nat)) (D.int .i64 0)=decide (F.length=0) from cd F.length 0];refine aa ab ?_;unfold BO;by_cases h0:F.length=0
  ·refine az h0 ?_;rw[if_pos h0];rfl
  refine aG h0 (aa (z:=aK F) rfl (aa cV (aa ab ?_)));rw[if_neg h0];by_cases h64:F.length>64
  ·refine az (by rw[bh];omega) ?_
   rw[if_pos h64];rfl
  refine aG (by rw[bh];omega) ?_
  rw[if_neg h64];refine bk (λi s=>s=[I (i:Int),.sl [],I 0,a7 (cW S F i),I 0]) S.length 0 (zma _) rfl (λi hi s hJ=>?_) (λs hJ=>?_)
  ·subst hJ;left;refine⟨[I ((i+1:Nat):Int),.sl [],I 0,a7 (cW S F (i+1)),I 0],?_,rfl⟩;have hvl:=wc S F i;refine aa (z:=S.map ac) rfl (aa ah (aa ab (az (by show((i:Int)<((S.map ac).length:Int));rw[aL];omega) ?_)))
   refine aa (z:=(0,[.sl [],I 0,a7 (cW S F (i+1)),I 0])) ?_ (aa (aq (au (i:=i) (by omega))) rfl)
   refine bZ (λk s=>s=[.bool (iY (F.take k) i),I (k:Int),.sl [],I 0,a7 (cW S F i),I 0]) F.length 0 (zma _) rfl (λk hk s hJ=>?_) (λs hJ=>?_)
   ·subst hJ;left;refine⟨[.bool (iY (F.take (k+1)) i),I ((k+1:Nat):Int),.sl [],I 0,a7 (cW S F i),I 0],?_,rfl⟩;have hpk:=hpl F[k] (zIa hk);have e1:iY (F.take (k+1)) i=(iY (F.take k) i||F[k].2.any λx=>decide (x=i)):=by
     unfold iY;rw[zxa hk,zBc];simp
    refine aa (z:=aK F) rfl (aa ah (aa ab (az (by show((k:Int)<((aK F).length:Int));rw[bh];omega) ?_)))
    have fp:∀ {β:Type} {g:List D->Option β} {y:β},g (ae F[k].2)=some y->(Option.bind (D.asSl (.sl (aK F))) λl46=>Option.bind (D.idx (I (k:Int)) (List.length l46)) λi47=>Option.bind (l46[i47]?) λx48=>Option.bind (D.fld x48 2) λx49=>Option.bind (D.asSl x49) g)=some y:=λh=>
     aa (z:=aK F) rfl (aa (z:=k) (by rw[bh];exact ap hk) (aa (fL hk) (aa (z:=.sl (ae F[k].2)) rfl (aa (z:=ae F[k].2) rfl h))))
    rw[e1];generalize iY (F.take k) i=b0;obtain⟨p,hp⟩:∃ p,F[k].2=p:=⟨_,rfl⟩;rw[hp] at hpk fp ⊢;refine bZ (λj s=>s=[.bool (b0||(p.take j).any λx=>decide (x=i)),I (j:Int),.sl [],I 0,a7 (cW S F i),I 0]) p.length 0 (zma _) (by rw[List.take_zero,List.any_nil,Bool.or_false];rfl) (λj hj s hJ=>?_) (λs hJ=>?_)
    ·subst hJ;left;refine⟨[.bool (b0||(p.take (j+1)).any λx=>decide (x=i)),I ((j+1:Nat):Int),.sl [],I 0,a7 (cW S F i),I 0],?_,rfl⟩;refine fp (aa ah (aa ab (az (by show((j:Int)<((ae p).length:Int));rw[ai];omega) (aa ab (aa (z:=b0||(p.take (j+1)).any λx=>decide (x=i)) ?_ (aa (aq (au (i:=j) (by omega))) rfl))))))
     rw[zxa hj,zBc];generalize (p.take j).any (λx=>decide (x=i))=b1;cases hb:(b0||b1)
     ·rw[<-Bool.or_assoc,hb,if_neg (by decide)]
      refine fp (aa (z:=j) (by rw[ai];exact ap hj) (aa (fM hj) ?_))
      have:D.beq (I ((p.getD j 0:Nat):Int)) (I (i:Int))=decide (p[j]=i):=by rw[cd];simp[List.getD,hj]
      show D.truth (D.bool (D.beq (I ((p.getD j 0:Nat):Int)) (I (i:Int))))=_;rw[this,ab];simp
     ·rw[<-Bool.or_assoc,hb];rfl
    ·subst hJ;rw[z3a];refine⟨(0,[.bool (b0||p.any λx=>decide (x=i)),.sl [],I 0,a7 (cW S F i),I 0]),fp (aa ah (aa ab (aG (by show ¬ ((p.length:Int)<((ae p).length:Int));rw[ai];omega) rfl))),?_⟩
     exact aa (aq (au (i:=k) (by omega))) rfl
   ·subst hJ;rw[z3a];refine⟨(0,[.bool (iY F i),.sl [],I 0,a7 (cW S F i),I 0]),?_,?_⟩
    ·exact aa (z:=aK F) rfl (aa ah (aa ab (aG (by show ¬ ((F.length:Int)<((aK F).length:Int));rw[bh];omega) rfl)))
    ·rw[Ba];refine aa (z:=iY F i) ab ?_;cases iY F i
     ·rfl
     ·rw[if_pos rfl,if_pos rfl];refine aa (z:=S.map ac) rfl (aa (z:=i) (by rw[aL];exact ap hi) (aa (cZ hi) ?_))
      rw[if_pos (by show((cW S F i).map ac).length+1<=1073741824;rw[aL];omega)]
      have:D.sl ((cW S F i).map ac++[ac (S.getD i V.zero)])=a7 (cW S F i++[pt S i]):=by simp[a7,pt]
      rw[<-this];rfl
  ·subst hJ;refine⟨(0,[.sl [],I 0,a7 (cW S F S.length),I 0]),?_,rfl⟩;exact aa (z:=S.map ac) rfl (aa ah (aa ab (aG (by show ¬ ((S.length:Int)<((S.map ac).length:Int));rw[aL];omega) rfl)))
def tg{l:List V}(hs:Ev l){m:V}{d:Int}(hF:IsF (pt l) l.length m d){p:List Nat}(hp:bz (pt l) l.length m d p):p.Nodup/\p.length<=l.length/\0<p.length/\∀ x∈p,x<l.length:=by
 obtain⟨p',hp',hnd,hmem⟩:=hF.poly hs;have e:=bz.eq hs hF hp hp';subst e;obtain⟨a,_,ha,hea,_,_⟩:=hF.head hs;have hm:a∈p:=(hmem a).2 ⟨ha,hea⟩;refine⟨hnd,?_,List.length_pos_iff.2 (λe=>by rw[e] at hm;cases hm),λx hx=>(aR.1 ((hmem x).1 hx).1).1⟩
 have:=z4b (l₂:=List.range l.length) hnd λx hx=>zNa.2 (aR.1 ((hmem x).1 hx).1).1;simpa using this
def JG{l:List V}(hl:∀ x∈l,bd MV x):∀ x∈dn l,bd MV x:=λx hx=>hl x (yT.1 hx)
def XV(n:Nat){l:List V}(hlen:l.length<=100):(64<l.length/\cA (n+8) 12 [a7 l]=some (An 2))\/(l.length<=64/\(¬ ∀ x∈l,bd MV x)/\cA (n+8) 12 [a7 l]=some (An 1)) ∨
  (l.length<=64/\(∀ x∈l,bd MV x)/\∃ F:FL,KnF (dn l) (dn l).length 0 0 F/\cA (n+8) 12 [a7 l]=some (BO (dn l) F)):=by
 by_cases h64:64<l.length
 ·exact .inl ⟨h64,Iz (n+7) h64⟩
 ·by_cases hb:∀ x∈l,bd MV x
  ·right;right;refine⟨by omega,hb,?_⟩
   have hsl:=oK l;have hS:=Gr (tN l);obtain⟨F,h1,h2⟩:=VR n (JG hb) (by omega) hS
   refine⟨F,h1,EK (n+5) (by omega) hb (λf hf=>?_) (zDa (h1.fok.len (by omega)) (by decide)) h2⟩
   obtain⟨q1,q2⟩:=h1.fok.ok f hf;have:=(tg hS q1 q2).2.1;omega
  ·exact .inr (.inl ⟨by omega,hb,Iy (n+7) (by omega) hb⟩)
def DS(S:List V)(F:FL):(cW S F S.length).Sublist S:=by
 have h1:((List.range S.length).map (pt S))=S:=by
  apply zbc;intro i;by_cases h:i<S.length
  ·rw[z8a,z4c h];simp[pt,List.getD,h]
  ·rw[z8a,show(List.range S.length)[i]?=none by simp;omega];simp;omega
 have h2:(cW S F S.length).Sublist ((List.range S.length).map (pt S)):=List.Sublist.map _ List.filter_sublist;rw[h1] at h2;exact h2
def XX(n:Nat){l:List V}(hlen:l.length<=100):(∃ e:Int,cA (n+9) 15 [cm l]=some (I e)/\e≠0)\/(cA (n+9) 15 [cm l]=some (I 0)/\l.length<=64/\(∀ x∈l,bd MV x)/\∃ F:FL,KnF (dn l) (dn l).length 0 0 F/\F.length≠0/\F.length<=64/\cW (dn l) F (dn l).length=l):=by
 rw[Yf]
 delta Oq qG qT Jn
 have err:∀ e:Int,e≠0->cA (n+8) 12 [a7 l]=some (An e)->∃ e:Int,(Option.bind (D.get (cm l) [0]) λx1=>
 Option.bind (cA (n+8) 12 [x1]) λr2=>
 Option.bind (D.get r2 [1]) λx3=>
 Option.bind (D.truth (D.bool (D.beq x3 (D.int .i64 0)))) λb4=>
 Option.bind (if b4 then(Option.bind (D.get r2 [0,0]) λx5=>
 Option.bind (D.get (cm l) [0]) λx6=>
 Option.bind (cA (n+8) 13 [x5,x6]) λr7=>
 Option.bind (D.un .not r7) λx8=>
 D.truth x8) else(some false)) λb9=>
 Option.bind (D.truth (D.bool b9)) λb10=>
 if b10 then(some (D.int .i64 3)) else(Option.bind (D.get r2 [1]) λx11=>
 some x11))=some (I e)/\e≠0:=λe he h=>⟨e,by
  refine aa (z:=a7 l) rfl (aa h (aa (z:=I e) rfl (aa (z:=false) ?_ (aa (z:=false) rfl (aa (z:=false) rfl rfl)))));rw[show D.beq (I e) (D.int .i64 0)=decide (e=0) from bK,decide_eq_false he];rfl,he⟩
 rcases XV n hlen with⟨h1,h2⟩|⟨h0,h1,h2⟩|⟨h0,h1,F,h2,h3⟩
 ·exact .inl (err 2 (by decide) h2)
 ·exact .inl (err 1 (by decide) h2)
 ·unfold BO at h3;by_cases f0:F.length=0
  ·rw[if_pos f0] at h3;exact .inl (err 120 (by decide) h3)
  ·rw[if_neg f0] at h3;by_cases f1:F.length>64
   ·rw[if_pos f1] at h3;exact .inl (err 2 (by decide) h3)
   ·rw[if_neg f1] at h3;have hvl:=wc (dn l) F (dn l).length;have hsl:=oK l;have h13:=XW (n+7) (cW (dn l) F (dn l).length) l (by omega)
    by_cases hv:cW (dn l) F (dn l).length=l
    ·rw[decide_eq_true hv] at h13;refine .inr ⟨?_,h0,h1,F,h2,f0,by omega,hv⟩
     refine aa (z:=a7 l) rfl (aa h3 (aa (z:=I 0) rfl (aa (z:=true) rfl (aa (z:=false) ?_ (aa (z:=false) rfl rfl)))));rw[if_pos rfl];exact aa (z:=a7 (cW (dn l) F (dn l).length)) rfl (aa (z:=a7 l) rfl (aa h13 rfl))
    ·rw[decide_eq_false hv] at h13;refine .inl ⟨3,?_,by decide⟩
     refine aa (z:=a7 l) rfl (aa h3 (aa (z:=I 0) rfl (aa (z:=true) rfl (aa (z:=true) ?_ (aa (z:=true) rfl rfl)))));rw[if_pos rfl];exact aa (z:=a7 (cW (dn l) F (dn l).length)) rfl (aa (z:=a7 l) rfl (aa h13 rfl))
end Sy
end
noncomputable section
namespace Sy
open Go Go.Proofs Geo
def EW(n:Nat){x y:Int}(hx:In x)(hy:In y)(h:In (x*y)):cA (n+3) 61 [ag x,ag y]=some (ag (x*y)):=by
 have:=VV n (a:=some x) (b:=some y) (aY hx) (aY hy)
 rwa [show lj (some x) (some y)=some (x*y) from kg h] at this
def EN(n:Nat){x y:Int}(hx:In x)(hy:In y)(h:In (x+y)):cA (n+4) 57 [ag x,ag y]=some (ag (x+y)):=by
 have:=VU n (a:=some x) (b:=some y) (aY hx) (aY hy)
 rwa [show t8 (some x) (some y)=some (x+y) from kg h] at this
def fm{α:Type}{A B y:α}(h:A=y):(if true=true then A else B)=y:=h
def IA(n:Nat){v:V}(h1:inR v.x)(h2:inR v.y)(h3:inR v.z):cA (n+3) 148 [ac v]=some (fF v):=by
 rw[UV];delta Hy qB qC qZ iL iR Jn;obtain⟨Z,hZ⟩:∃ Z,(D.st [(D.bool false),(D.bool false),(ar aQ)])=Z:=⟨_,rfl⟩;rw[hZ];refine aU (s':=[I 1,.st [ag v.x,Z,Z]]) ?_ (aU (s':=[I 2,.st [ag v.x,ag v.y,Z]]) ?_ (aU (s':=[I 3,fF v]) ?_ (dD (r:=(0,[fF v])) ?_ rfl)))
 ·exact aa (z:=.bool true) rfl (aa (z:=true) rfl (fm (aa (z:=0) rfl (aa (z:=I v.x) rfl (aa (xW n h1) (aa (z:=0) rfl (aa (z:=.st [ag v.x,Z,Z]) rfl (aa (z:=I 1) rfl rfl))))))))
 ·exact aa (z:=.bool true) rfl (aa (z:=true) rfl (fm (aa (z:=1) rfl (aa (z:=I v.y) rfl (aa (xW n h2) (aa (z:=1) rfl (aa (z:=.st [ag v.x,ag v.y,Z]) rfl (aa (z:=I 2) rfl rfl))))))))
 ·exact aa (z:=.bool true) rfl (aa (z:=true) rfl (fm (aa (z:=2) rfl (aa (z:=I v.z) rfl (aa (xW n h3) (aa (z:=2) rfl (aa (z:=fF v) rfl (aa (z:=I 3) rfl rfl))))))))
 ·exact aa (z:=.bool false) rfl (aa (z:=false) rfl rfl)
end Sy
end
noncomputable section
namespace Sy
open Go Go.Proofs Geo
end Sy
end
noncomputable section
namespace Sy
open Go Go.Proofs Geo
def wR{m k:Nat}(h:m<=2^k)(hk:k<=511):m<dJ:=by
 have:In (m:Int):=gV hk (by rw[zqa];exact h)
 have:=aT.1 this
 rwa [zqa] at this
def AM{a b k:Nat}(ha:a<=2^k)(hb:b<=2^k):a+b<=2^(k+1):=by rw[zjb];omega
def JV(q:Rat)(a k:Nat):Prop:=q.num.natAbs<=2^a/\q.den<=2^k
def JV.inR{q:Rat}{a k:Nat}(h:JV q a k)(ha:a<=511:=by decide)(hk:k<=511:=by decide):InR q:=
 ⟨gV ha h.1,gV hk (by rw[zqa];exact h.2)⟩
theorem JV.fitM{x y:Rat}{a k b m:Nat}(hx:JV x a k)(hy:JV y b m)(h1:a+b<=511:=by decide)(h2:k+m<=511:=by decide):fitM x y:=
 ⟨wR (bD hx.1 hy.1 (zha _)) h1,wR (bD hx.2 hy.2 (zha _)) h2⟩
theorem JV.fitA{x y:Rat}{a k b m:Nat}(hx:JV x a k)(hy:JV y b m)(h1:a+m<=510:=by decide)(h2:b+k<=510:=by decide)(h3:k+m<=511:=by decide):fitA x y:=by
 refine⟨?_,wR (bD hx.2 hy.2 (zha _)) h3⟩;have e1:=bD hx.1 hy.2 h1;have e2:=bD hy.1 hx.2 h2;exact wR (k:=510+1) (AM e1 e2) (by decide)
def Ny(t:T3):D:=.st [.st [ac t.1,ac t.2.1,ac t.2.2],ag (YO t)]
def Kb(T:List T3):List D:=T.map Ny
theorem DZ.take{T:List T3}{N:Nat}(h:DZ T N)(i:Nat):DZ (T.take i) N:=
 ⟨zDa (by rw[zcb];omega) h.1,λt ht=>h.2 t (zGa ht)⟩
section
variable{l:List V}{T:List T3}(hT:DZ T 268435456)(h58:∀ m,cA (m+9) 58 [cm l]=some (.sl (Kb T)))
include hT h58
end
end Sy
end
noncomputable section
namespace Sy
open Go Go.Proofs Geo
def Fl{S:List V}(hS:Ev S){F:FL}(hK:FOk S F){k:Nat}(h:iY F k=true):MN (pt S) S.length k:=by
 obtain⟨f,hf,h2⟩:=z7b.1 h;obtain⟨x,hx,hxk⟩:=z7b.1 h2;have hxk:x=k:=by simpa using hxk
 subst hxk;obtain⟨q1,q2⟩:=hK.ok f hf;obtain⟨p,p1,_,p3⟩:=q1.poly hS;rw[<-bz.eq hS q1 q2 p1] at p3;obtain⟨r1,r2⟩:=(p3 x).1 hx;exact⟨_,_,q1,r1,r2⟩
end Sy
end
noncomputable section
namespace Sy
open Go Go.Proofs Geo
def VX(n:Nat){u v:V}(h1:inR (u.x+v.x))(h2:inR (u.y+v.y))(h3:inR (u.z+v.z)):cA (n+1) 64 [ac u,ac v]=some (ac (V.add u v)):=by
 rw[u64];delta OJ qG qB;exact aa (z:=I u.x) rfl (aa (z:=I v.x) rfl (aa (aq h1) (aa (z:=I u.y) rfl (aa (z:=I v.y) rfl (aa (aq h2) (aa (z:=I u.z) rfl (aa (z:=I v.z) rfl (aa (aq h3) rfl))))))))
def JZ(q:Rat):D.beq (gz q) (gz q)=true:=by
 unfold gz;show(D.beq (ag q.num) (ag q.num)&&(D.beq (ag q.den) (ag q.den)&&true))=true;rw[xQ,xQ];rfl
section
variable{l:List V}{T:List T3}(hT:DZ T 268435456)(h58:∀ m,cA (m+9) 58 [cm l]=some (.sl (Kb T)))
include hT h58
end
end Sy
end
noncomputable section
namespace Sy
open Go Go.Proofs Geo
end Sy
end
noncomputable section
namespace Sy
open Go Go.Proofs Geo
def KM(n:Nat):cA (n+3) 169 []=some (ag 1):=by
 rw[U3];delta HF Jn;exact aa (xW n (ib 1)) rfl
def Tg(n:Nat){x:Int}(hx:In x):cA (n+1031) 138 [ag x]=some (gz (x:Rat)):=by
 rw[UM];unfold Hp;refine aa (KM (n+1027)) (aa (L8 n hx zV (by decide)) ?_)
 rw[qb]
def X3(n:Nat){x:Int}(hx:inR x):cA (n+1032) 74 [I x]=some (gz (x:Rat)):=by
 rw[YA];unfold ON;exact aa (xW (n+1029) hx) (aa (Tg n (bG hx)) rfl)
def MY(n:Nat){q:Rat}(h:InR q):cA (n+1030) 136 [gz q]=some (.bool true):=by
 rw[N7];delta Ef qG qB qT Jn;have hp:=q.den_pos;refine aa (z:=ag q.num) rfl (aa (EJ (n+1027) h.1) (aa (z:=true) rfl (aa (z:=true) (fm ?_) (aa (z:=true) rfl (aa (z:=true) (fm ?_) (aa (z:=true) rfl (aa (z:=true) (fm ?_) rfl)))))))
 ·exact aa (z:=ag (q.den:Int)) rfl (aa (EJ (n+1027) h.2) rfl)
 ·refine aa (z:=ag (q.den:Int)) rfl (aa (qQ (n+1026) h.2) (aa cV ?_));rw[fW (by omega)];rfl
 ·refine aa (z:=ag q.num) rfl (aa (z:=ag (q.den:Int)) rfl (aa (CN n h.1 h.2) (aa (KM (n+1026)) ?_)));have e:Nat.gcd q.num.natAbs (q.den:Int).natAbs=1:=q.reduced;rw[e];show D.truth (.bool (D.beq (ag 1) (ag 1)))=_;rw[xQ];rfl
def DN{x y:Rat}{a b g:Nat}(ha:x.den=g*a)(hb:y.den=g*b)(hne:(a:Int)*y.den≠0):Rat.divInt (x.num*b+y.num*a) ((a:Int)*y.den)=x+y:=by
 conv=>rhs;rw[<-zsb x,<-zsb y]
 rw[zqd _ _ (cl x) (cl y),Rat.divInt_eq_divInt_iff hne (by have:=cl x;have:=cl y;exact zud ‹_› ‹_›)]
 have k1:(x.den:Int)=g*a:=by rw[ha,zVa]
 have k2:(y.den:Int)=g*b:=by rw[hb,zVa]
 rw[k1,k2];grind
def Ai{N D:Int}(hD:0<D)(h:Nat.gcd N.natAbs D.natAbs=1):(Rat.divInt N D).num=N/\((Rat.divInt N D).den:Int)=D:=by
 obtain⟨p1,p2⟩:=fj N (show D≠0 by omega)
 have e:((1:Nat):Int)=1:=rfl;rw[if_neg (by omega),h,e,Int.ediv_one] at p1 p2
 exact⟨p1,p2⟩
def BH(x:Int){d:Int}(hd:d≠0):(Rat.divInt x d).num.natAbs ∣ x.natAbs/\(Rat.divInt x d).den ∣ d.natAbs:=by
 obtain⟨p1,p2⟩:=fj x hd;have e:(Rat.divInt x d).den=((Rat.divInt x d).den:Int).natAbs:=rfl;rw[e,p1,p2];have key:∀ z:Int,((Nat.gcd x.natAbs d.natAbs:Nat):Int) ∣ z->(z/(if d<0 then -(Nat.gcd x.natAbs d.natAbs:Int) else(Nat.gcd x.natAbs d.natAbs:Int))).natAbs ∣ z.natAbs:=by
  intro z hz;have hgp:0<Nat.gcd x.natAbs d.natAbs:=znc _ (by omega)
  obtain⟨k,rfl⟩:=hz;generalize Nat.gcd x.natAbs d.natAbs=g at *;split
  ·rw[Int.ediv_neg,z9a _ (by omega),zmc,zLa];exact Nat.dvd_mul_left _ _
  ·rw[z9a _ (by omega),zLa];exact Nat.dvd_mul_left _ _
 exact⟨key x (z1a.2 (zbb _ _)),key d (z1a.2 (zzb _ _))⟩
def O9(n:Nat){x y:Int}(hx:In x)(hy:In y):cA (n+4) 90 [ag x,ag y]=some (I (ba x y)):=by
 rw[YJ];delta OX qG qT qN Jn;have gx:=mQ (n+1) (a:=some x) (aY hx);have gy:=mQ (n+1) (a:=some y) (aY hy);have hxt:=aT.1 hx;have hyt:=aT.1 hy;refine aa gx (aa gy (aa (z:=.bool false) rfl (aa (z:=false) rfl (aa (z:=false) rfl (aa (z:=false) rfl ?_)))));rw[if_neg (by decide)]
 refine aa (z:=.bool false) rfl (aa (z:=false) rfl ?_);rw[if_neg (by decide)]
 refine aa (z:=.bool false) rfl (aa (z:=false) rfl ?_);rw[if_neg (by decide)]
 refine aa (bn x) (aa (bn y) ?_);by_cases h1:x<0<;>by_cases h2:y<0
 ·rw[decide_eq_true h1,decide_eq_true h2];refine aa (z:=false) rfl ?_;rw[if_neg (by decide)]
  refine aa (z:=.bool true) (by rw[bn,decide_eq_true h1]) (aa (z:=true) rfl (fm ?_))
  refine aa (gH y) (aa (gH x) (aa (Iv n hyt hxt) ?_));congr 2;unfold ba;by_cases c:x<y
  ·rw[if_pos c,if_pos (by omega)]
  ·rw[if_neg c,if_neg (by omega)]
   by_cases c2:x>y
   ·rw[if_pos c2,if_pos (by omega)]
   ·rw[if_neg c2,if_neg (by omega)]
 ·rw[decide_eq_true h1,decide_eq_false h2];refine aa (z:=true) rfl (fm ?_);refine aa (z:=.bool true) (by rw[bn,decide_eq_true h1]) (aa (z:=true) rfl (fm ?_))
  unfold ba;rw[if_pos (by omega)]
 ·rw[decide_eq_false h1,decide_eq_true h2];refine aa (z:=true) rfl (fm ?_);refine aa (z:=.bool false) (by rw[bn,decide_eq_false h1]) (aa (z:=false) rfl ?_)
  rw[if_neg (by decide)]
  unfold ba;rw[if_neg (by omega),if_pos (by omega)]
 ·rw[decide_eq_false h1,decide_eq_false h2];refine aa (z:=false) rfl ?_;rw[if_neg (by decide)]
  refine aa (z:=.bool false) (by rw[bn,decide_eq_false h1]) (aa (z:=false) rfl ?_)
  rw[if_neg (by decide)]
  refine aa (gH x) (aa (gH y) (aa (Iv n hxt hyt) ?_));congr 2;unfold ba;by_cases c:x<y
  ·rw[if_pos c,if_pos (by omega)]
  ·rw[if_neg c,if_neg (by omega)]
   by_cases c2:x>y
   ·rw[if_pos c2,if_pos (by omega)]
   ·rw[if_neg c2,if_neg (by omega)]
end Sy
end
noncomputable section
namespace Sy
open Go Go.Proofs Geo
def CH:D:=.st [rK,ag 1]
def bW:Option Rat->D
 | some q=>gz q
 | none=>CH
def OW(a:Option Rat):Prop:=∀ q,a=some q->InR q
theorem OW.some{q:Rat}(h:OW (some q)):InR q:=h q rfl
def de{q:Rat}(h:InR q):OW (some q):=λy e=>by cases e;exact h
def nI:OW none:=λy e=>by cases e
def nF:nE none:=λy e=>by cases e
def kH:Option Int->Option Int->Option Rat
 | some n,some d=>if d=0 then none else some (Rat.divInt n d)
 | _,_=>none
def rt{a b:Option Int}(ha:nE a)(hb:nE b):OW (kH a b):=by
 cases a<;>cases b<;>simp only[kH]<;>first|exact nI|skip
 split
 ·exact nI
 ·exact de (fK ha.some hb.some (by assumption))
def wi(a b:Option Int):nE (t8 a b):=by
 cases a<;>cases b<;>simp only[t8]<;>first|exact nF|exact zd _
def fr(a b:Option Int):nE (lj a b):=by
 cases a<;>cases b<;>simp only[lj]<;>first|exact nF|exact zd _
def np{x:Int}(hx:In x)(g:Int):In (x/g):=MK hx (Int.natAbs_ediv_le_natAbs x g)
def CE(x y:Rat):Option Rat:=
 kH (t8 (lj (some x.num) (some ((y.den:Int)/(Nat.gcd x.den y.den:Nat)))) (lj (some y.num) (some ((x.den:Int)/(Nat.gcd x.den y.den:Nat))))) (lj (some ((x.den:Int)/(Nat.gcd x.den y.den:Nat))) (some (y.den:Int)))
def addW:Option Rat->Option Rat->Option Rat
 | some x,some y=>CE x y
 | _,_=>none
def Jg(x y:Rat):Option Rat:=
 kH (lj (some (Rat.divInt x.num y.den).num) (some (Rat.divInt y.num x.den).num)) (lj (some ((Rat.divInt x.num y.den).den:Int)) (some ((Rat.divInt y.num x.den).den:Int)))
def mulW:Option Rat->Option Rat->Option Rat
 | some x,some y=>Jg x y
 | _,_=>none
def LD(a:Option Rat):Option Rat:=a.map (λx=>-x)
def wB(a b:Option Rat):Option Rat:=b.elim none λy=>mulW a (kH (some (y.den:Int)) (some y.num))
def Im(a b:Option Rat):OW (addW a b):=by
 cases a<;>cases b<;>simp only[addW]<;>first|exact nI|exact rt (wi _ _) (fr _ _)
def Ji(a b:Option Rat):OW (mulW a b):=by
 cases a<;>cases b<;>simp only[mulW]<;>first|exact nI|exact rt (fr _ _) (fr _ _)
def IR(a b:Option Rat):OW (wB a b):=by
 cases b with
 | none=>exact nI
 | some y=>exact Ji _ _
def Gt(x y:Rat):∃ g a b:Nat,g=Nat.gcd x.den y.den/\0<g/\x.den=g*a/\y.den=g*b/\0<a/\0<b/\(x.den:Int)/(Nat.gcd x.den y.den:Nat)=a/\(y.den:Int)/(Nat.gcd x.den y.den:Nat)=b:=by
 obtain⟨g,hg⟩:∃ g,g=Nat.gcd x.den y.den:=⟨_,rfl⟩;have hxp:=x.den_pos;have hyp:=y.den_pos;have gp:0<g:=by rw[hg];exact Nat.gcd_pos_of_pos_left _ hxp
 obtain⟨a,ha⟩:g ∣ x.den:=hg ▸ zbb _ _;obtain⟨b,hb⟩:g ∣ y.den:=hg ▸ zzb _ _;have g0:(g:Int)≠0:=by omega
 refine⟨g,a,b,hg,gp,ha,hb,Nat.pos_of_ne_zero λh=>by rw[h] at ha;omega,Nat.pos_of_ne_zero λh=>by rw[h] at hb;omega,?_,?_⟩
 ·rw[<-hg,ha,zVa];exact z9a _ g0
 ·rw[<-hg,hb,zVa];exact z9a _ g0
def lV{x y:Int}(h:In (x*y)):lj (some x) (some y)=some (x*y):=kg h
def Bl{x y:Int}(h:In (x+y)):t8 (some x) (some y)=some (x+y):=kg h
def Ey{x y:Rat}(hf:fitA x y):addW (some x) (some y)=some (x+y):=by
 obtain⟨f1,f2⟩:=hf;obtain⟨g,a,b,hg,gp,ha,hb,a0,b0,ea,eb⟩:=Gt x y;have ha':a<=x.den:=by rw[ha];exact zKb _ gp
 have hb':b<=y.den:=by rw[hb];exact zKb _ gp
 have m1:x.num.natAbs*b<=x.num.natAbs*y.den:=zZa _ hb';have m2:y.num.natAbs*a<=y.num.natAbs*x.den:=zZa _ ha';have m3:a*y.den<=x.den*y.den:=zAa _ ha';have i1:In (x.num*b):=aT.2 (by rw[zLa,zqa];omega)
 have i2:In (y.num*a):=aT.2 (by rw[zLa,zqa];omega)
 have i3:In (x.num*b+y.num*a):=aT.2 (by
  have:=zEc (x.num*b) (y.num*a);rw[zLa,zLa,zqa,zqa] at this;omega)
 have i4:In ((a:Int)*y.den):=aT.2 (by rw[<-zVa,zqa];omega)
 have hne:(a:Int)*y.den≠0:=by
  have:0<a*y.den:=Nat.mul_pos a0 y.den_pos;rw[<-zVa];omega
 simp only[addW,CE,ea,eb];rw[lV i1,lV i2,Bl i3,lV i4];simp only[kH];rw[if_neg hne,DN ha hb hne]
def AA(x y:Rat):Rat.divInt x.num y.den*Rat.divInt y.num x.den=x*y:=by
 conv=>rhs;rw[<-zsb x,<-zsb y]
 rw[zWc,zWc,zkc (y.den:Int)]
def FJ{x y:Rat}(hf:fitM x y):mulW (some x) (some y)=some (x*y):=by
 obtain⟨f1,f2⟩:=hf;obtain⟨p1,p2⟩:=lN x.num (cl y);obtain⟨q1,q2⟩:=lN y.num (cl x);rw[zqa] at p2 q2;have e:=AA x y;simp only[mulW,Jg];generalize Rat.divInt x.num y.den=P at *;generalize Rat.divInt y.num x.den=Q at *;have i1:In (P.num*Q.num):=aT.2 (by rw[zLa];exact zKa (z2a p1 q1) f1)
 have i2:In ((P.den:Int)*Q.den):=aT.2 (by
  rw[<-zVa,zqa];exact zKa (z2a p2 q2) (by rw[zBa];exact f2))
 rw[lV i1,lV i2];simp only[kH];rw[if_neg (zud (cl P) (cl Q)),<-zWc,zsb,zsb,e]
def MZ(n:Nat):cA (n+1) 139 [rK]=some (.bool true):=by
 rw[N8];delta Eg qG qB qC qT qN qZ iL iR Jn;refine bk (λi s=>s=[.bool true,I (i:Int)]) 16 0 (zma _) rfl (λi hi s hJ=>?_) (λs hJ=>?_)
 ·subst hJ;left;refine⟨_,?_,rfl⟩;refine aa ah (aa ab (az (by show(i:Int)<16;omega) (aa ab (aa (z:=true) ?_ (aa (aq (au (i:=i) (by omega))) rfl)))))
  rw[if_pos rfl];refine aa (ap hi) (aa (z:=.int .u32 0) ?_ rfl);have hg:D.get rK [2,i]=D.get (LM 0) [i]:=rfl;rw[hg,bi _ hi,kV]
 ·subst hJ;refine⟨(0,[.bool true]),aa ah (aa ab (aG (by decide) rfl)),?_⟩
  exact aa (z:=.bool true) rfl (aa (z:=true) rfl (fm (aa (z:=true) rfl (aa (z:=true) rfl rfl))))
def uc(n:Nat){a:Option Int}(ha:nE a):cA (n+2) 76 [cz a]=some (.bool a.isSome):=by
 cases a with
 | some x=>exact rR n ha.some
 | none=>rw[V4];delta ME qG qT;exact aa (MZ n) (aa (z:=true) rfl (aa (z:=false) rfl rfl))
def Cz(n:Nat){a:Option Int}(ha:nE a):∃ w b,cA (n+3) 124 [cz a]=some (.tup [I w,.bool b])/\(b=true->a.isSome=true):=by
 cases a with
 | some x=>
  obtain⟨w,b,h,_⟩:=zQ n ha.some;exact⟨w,b,h,λ_=>rfl⟩
 | none=>
  refine⟨0,false,?_,λh=>by cases h⟩
  rw[LT];delta CA qG qB qC qT qN qZ iL iR Jn;exact aa (uc n ha) (aa (z:=.bool true) rfl (aa (z:=true) rfl (aa (z:=true) rfl (aa (z:=true) rfl rfl))))
def w9{n f:Nat}{a b:Option Int}{e:Option Int->D}(h:(a.isSome&&b.isSome)=false)(hb:cA n f [e b]=some (.bool b.isSome)) :
  (if(!a.isSome)=true then some true else Option.bind (cA n f [e b]) λr=>Option.bind (D.un .not r) λx=>D.truth x)=some true:=by
 cases hA:a.isSome with
 | false=>rfl
 | true=>
  rw[hA] at h;have:b.isSome=false:=by simpa using h
  rw[if_neg (by decide),hb,this];rfl
def Nn(n:Nat){a b:Option Int}(ha:nE a)(hb:nE b):cA (n+4) 59 [cz a,cz b]=some (cz (t8 a b)):=by
 rcases dW (a:=a) (b:=b) with h|⟨x,y,rfl,rfl⟩
 ·have e:t8 a b=none:=by cases a<;>cases b<;>simp at h<;>rfl
  rw[e,VG];delta L4 qG qB qT qN;obtain⟨w1,b1,h1,k1⟩:=Cz n ha;obtain⟨w2,b2,h2,k2⟩:=Cz n hb;have hb':(b1&&b2)=false:=by
   cases b1<;>cases b2<;>first|rfl|(rw[k1 rfl,k2 rfl] at h;cases h)
  refine aa h1 (aa (z:=I w1) rfl (aa (z:=.bool b1) rfl (aa h2 (aa (z:=I w2) rfl (aa (z:=.bool b2) rfl (aa (z:=b1) rfl (aa (z:=false) (by cases b1<;>cases b2<;>simp at hb'<;>rfl) (aa (z:=false) rfl ?_))))))))
  rw[if_neg (by decide)]
  refine aa (uc (n+1) ha) (aa aP (aa ab (aa (w9 h (uc (n+1) hb)) (aa (z:=true) rfl (fm (aa (Iw (n+2)) rfl))))))
 ·exact TS n ha.some hb.some
def TZ(n:Nat){a b:Option Int}(ha:nE a)(hb:nE b):cA (n+4) 89 [cz a,cz b]=some (cz (lj a b)):=by
 rcases dW (a:=a) (b:=b) with h|⟨x,y,rfl,rfl⟩
 ·have e:lj a b=none:=by cases a<;>cases b<;>simp at h<;>rfl
  rw[e,VI];delta L6 qG qB qT qN;obtain⟨w1,b1,h1,k1⟩:=Cz n ha;obtain⟨w2,b2,h2,k2⟩:=Cz n hb;have hb':(b1&&b2)=false:=by
   cases b1<;>cases b2<;>first|rfl|(rw[k1 rfl,k2 rfl] at h;cases h)
  refine aa h1 (aa (z:=I w1) rfl (aa (z:=.bool b1) rfl (aa h2 (aa (z:=I w2) rfl (aa (z:=.bool b2) rfl (aa (z:=b1) rfl (aa (z:=false) (by cases b1<;>cases b2<;>simp at hb'<;>rfl) (aa (z:=false) rfl (aa (z:=false) rfl (aa (z:=false) rfl (aa (z:=false) rfl (aa (z:=false) rfl ?_))))))))))))
  rw[if_neg (by decide)]
  refine aa (uc (n+1) ha) (aa aP (aa ab (aa (w9 h (uc (n+1) hb)) (aa (z:=true) rfl (fm (aa (Iw (n+2)) rfl))))))
 ·exact T1 n ha.some hb.some
def Nr(n:Nat):cA (n+5) 84 []=some CH:=by
 rw[YH];unfold OU;exact aa (Iw (n+3)) (aa (KJ n) rfl)
def KQ(n:Nat){a b:Option Int}(ha:nE a)(hb:nE b):cA (n+6) 37 [cz a,cz b]=some (bW (kH a b)):=by
 rcases dW (a:=a) (b:=b) with h|⟨x,d,rfl,rfl⟩
 ·have e:kH a b=none:=by cases a<;>cases b<;>simp at h<;>rfl
  rw[e,Vo];delta L2 qC qT qN Jn;exact aa (uc (n+3) ha) (aa aP (aa ab (aa (w9 h (uc (n+3) hb)) (aa (z:=true) rfl (aa (z:=true) rfl (aa (z:=true) rfl (fm (aa (Nr n) rfl))))))))
 ·by_cases hd:d=0
  ·subst hd;rw[Vo];delta L2 qC qT qN Jn;refine aa (uc (n+3) ha) (aa aP (aa (z:=false) rfl (aa (z:=false) ?_ (aa (z:=false) rfl (aa (z:=true) ?_ (aa (z:=true) rfl (fm (aa (Nr n) rfl))))))))
   ·rw[if_neg (by decide)];exact aa (uc (n+3) hb) (aa aP rfl)
   ·rw[if_neg (by decide)];exact aa (Nq (n+2) hb.some) rfl
  ·have e:kH (some x) (some d)=some (Rat.divInt x d):=by simp only[kH];rw[if_neg hd]
   rw[e];exact O5 (n+1) ha.some hb.some hd
def CP(n:Nat){x y:Int}(hx:In x)(hy:In y):cA (n+4) 89 [ag x,ag y]=some (cz (lj (some x) (some y))):=TZ n (a:=some x) (b:=some y) (aY hx) (aY hy)
def TJ(n:Nat){x d:Int}(hx:In x)(hd:In d):cA (n+6) 37 [ag x,ag d]=some (bW (kH (some x) (some d))):=KQ n (a:=some x) (b:=some d) (aY hx) (aY hd)
def ud(n:Nat){a:Option Rat}(ha:OW a):cA (n+5) 88 [bW a]=some (.bool a.isSome):=by
 cases a with
 | some q=>exact X5 n ha.some
 | none=>
  rw[V8];delta MI qG qC qT qN Jn;exact aa (z:=rK) rfl (aa (uc (n+2) (a:=none) nF) (aa (z:=.bool true) rfl (aa (z:=true) rfl (aa (z:=true) rfl (aa (z:=true) rfl rfl)))))
def ga{a b:Option Rat}:(a.isSome&&b.isSome)=false\/∃ x y,a=some x/\b=some y:=by
 cases a<;>cases b<;>simp
def rz{n f:Nat}{a b:Option Rat}(h:(a.isSome&&b.isSome)=false)(hb:cA n f [bW b]=some (.bool b.isSome)) :
  (if(!a.isSome)=true then some true else Option.bind (cA n f [bW b]) λr=>Option.bind (D.un .not r) λx=>D.truth x)=some true:=by
 cases hA:a.isSome with
 | false=>rfl
 | true=>
  rw[hA] at h;have:b.isSome=false:=by simpa using h
  rw[if_neg (by decide),hb,this];rfl
def Fd{x y:Rat}(hx:InR x):In ((Nat.gcd x.den y.den:Nat):Int):=kK.2 (zKa (Nat.gcd_le_left _ x.den_pos) (kK.1 hx.2))
def TN(n:Nat){a b:Option Rat}(ha:OW a)(hb:OW b):cA (n+7) 40 [bW a,bW b]=some (bW (addW a b)):=by
 rcases ga (a:=a) (b:=b) with h|⟨x,y,rfl,rfl⟩
 ·have e:addW a b=none:=by cases a<;>cases b<;>simp at h<;>rfl
  rw[e,V3];delta Mp qG qT qN;exact aa (ud (n+1) ha) (aa aP (aa ab (aa (rz h (ud (n+1) hb)) (aa (z:=true) rfl (fm (aa (Nr (n+1)) rfl))))))
 ·have hx:=ha.some;have hy:=hb.some;rw[V3];delta Mp qG qT qN;refine aa (ud (n+1) ha) (aa aP (aa (z:=false) rfl (aa (z:=false) ?_ (aa (z:=false) rfl ?_))))
  ·rw[if_neg (by decide)];exact aa (ud (n+1) hb) (aa aP rfl)
  rw[if_neg (by decide)]
  obtain⟨g,p,q,hg,gp,hp,hq,p0,q0,ep,eq⟩:=Gt x y;have gi:=Fd (y:=y) hx;have g0:((Nat.gcd x.den y.den:Nat):Int)≠0:=by rw[<-hg];omega
  have h1:=KU (n+2) hx.2 hy.2;rw[zqa,zqa] at h1;have h2:=IF (n+2) hx.2 gi g0 ⟨p,by rw[<-hg,hp,zVa]⟩
  have h3:=IF (n+2) hy.2 gi g0 ⟨q,by rw[<-hg,hq,zVa]⟩
  have ip:=np hx.2 ((Nat.gcd x.den y.den:Nat):Int);have iq:=np hy.2 ((Nat.gcd x.den y.den:Nat):Int);refine aa (z:=ag (x.den:Int)) rfl (aa (z:=ag (y.den:Int)) rfl (aa h1 ?_));refine aa (z:=ag (x.den:Int)) rfl (aa h2 (aa (z:=ag (y.den:Int)) rfl (aa h3 (aa (z:=ag x.num) rfl (aa (CP (n+2) hx.1 iq) (aa (z:=ag y.num) rfl (aa (CP (n+2) hy.1 ip) (aa (Nn (n+2) (fr _ _) (fr _ _)) (aa (z:=ag (y.den:Int)) rfl (aa (CP (n+2) ip hy.2) ?_))))))))));exact aa (KQ n (wi _ _) (fr _ _)) rfl
def wU{x d:Int}(h:d≠0):kH (some x) (some d)=some (Rat.divInt x d):=by simp only[kH];rw[if_neg h]
def Nd(n:Nat){a b:Option Rat}(ha:OW a)(hb:OW b):cA (n+7) 38 [bW a,bW b]=some (bW (mulW a b)):=by
 rcases ga (a:=a) (b:=b) with h|⟨x,y,rfl,rfl⟩
 ·have e:mulW a b=none:=by cases a<;>cases b<;>simp at h<;>rfl
  rw[e,V2];delta Mo qG qT qN;exact aa (ud (n+1) ha) (aa aP (aa ab (aa (rz h (ud (n+1) hb)) (aa (z:=true) rfl (fm (aa (Nr (n+1)) rfl))))))
 ·have hx:=ha.some;have hy:=hb.some;rw[V2];delta Mo qG qT qN;refine aa (ud (n+1) ha) (aa aP (aa (z:=false) rfl (aa (z:=false) ?_ (aa (z:=false) rfl ?_))))
  ·rw[if_neg (by decide)];exact aa (ud (n+1) hb) (aa aP rfl)
  rw[if_neg (by decide)]
  have r1:=fK hx.1 hy.2 (cl y);have r2:=fK hy.1 hx.2 (cl x);refine aa (z:=ag x.num) rfl (aa (z:=ag (y.den:Int)) rfl (aa (O5 (n+1) hx.1 hy.2 (cl y)) (aa (z:=ag y.num) rfl (aa (z:=ag (x.den:Int)) rfl (aa (O5 (n+1) hy.1 hx.2 (cl x)) ?_)))));simp only[mulW,Jg];generalize Rat.divInt x.num y.den=P at *;generalize Rat.divInt y.num x.den=Q at *;refine aa (z:=ag P.num) rfl (aa (z:=ag Q.num) rfl (aa (CP (n+2) r1.1 r2.1) (aa (z:=ag (P.den:Int)) rfl (aa (z:=ag (Q.den:Int)) rfl (aa (CP (n+2) r1.2 r2.2) ?_)))));exact aa (KQ n (fr _ _) (fr _ _)) rfl
def TU(n:Nat){a b:Option Rat}(ha:OW a)(hb:OW b):cA (n+8) 65 [bW a,bW b]=some (bW (wB a b)):=by
 rw[Yx];delta OK qG qN;cases b with
 | none=>exact aa (ud (n+2) hb) (aa aP (aa (z:=true) rfl (fm (aa (Nr (n+2)) rfl))))
 | some y=>
  refine aa (ud (n+2) hb) (aa aP (aa (z:=false) rfl ?_));rw[if_neg (by decide)]
  exact aa (z:=ag (y.den:Int)) rfl (aa (z:=ag y.num) rfl (aa (TJ (n+1) hb.some.2 hb.some.1) (aa (Nd n ha (rt (aY hb.some.2) (aY hb.some.1))) rfl)))
end Sy
end
noncomputable section
namespace Sy
open Go Go.Proofs Geo
end Sy
end
noncomputable section
namespace Sy
open Go Go.Proofs Geo
def TG(n:Nat){q:Rat}(h:InR q):cA (n+1031) 357 [gz q]=some (gz (-q)):=by
 rw[Og];delta Eo qG qN;refine aa (MY n h) (aa (z:=.bool false) rfl (aa (z:=false) rfl ?_));rw[if_neg (by decide)]
 exact aa (z:=ag q.num) rfl (aa (z:=ag (-q.num)) (TW (n+1027) (a:=some q.num) (λx hx=>by cases hx;exact h.1)) (aa (z:=ag (q.den:Int)) rfl rfl))
structure Way(P:List D)(z:Nat->Int):Prop where
 get:∀ i (h:i<P.length),D.get P[i] [0,2]=some (I (z i))
 le:∀ i,i<P.length->(z i).natAbs<=2^60
 len:P.length<=512
end Sy
end
noncomputable section
namespace Sy
open Go Go.Proofs Geo
def xT(n:Nat){a:Option Int}(ha:nE a):cA (n+2) 128 [cz a]=some (.bool a.isSome):=by
 cases a with
 | some x=>exact EJ n ha.some
 | none=>rw[N5];delta Ed qG qN;exact aa (z:=.bool true) rfl (aa (z:=.bool false) rfl (aa (z:=false) rfl (aa (z:=false) rfl rfl)))
def xU(n:Nat):cA (n+4) 130 []=some CH:=by
 rw[UI];unfold Hl;exact aa (CM (n+2)) (aa (KM n) rfl)
def Np(n:Nat){a b:Option Int}(ha:nE a)(hb:nE b):cA (n+1030) 62 [cz a,cz b]=some (bW (kH a b)):=by
 rcases dW (a:=a) (b:=b) with h|⟨x,d,rfl,rfl⟩
 ·have e:kH a b=none:=by cases a<;>cases b<;>simp at h<;>rfl
  rw[e,VH];delta L5 qC qT qN Jn;exact aa (xT (n+1027) ha) (aa aP (aa ab (aa (w9 h (xT (n+1027) hb)) (aa (z:=true) rfl (aa (z:=true) rfl (aa (z:=true) rfl (fm (aa (xU (n+1025)) rfl))))))))
 ·by_cases hd:d=0
  ·subst hd;rw[VH];delta L5 qC qT qN Jn;refine aa (xT (n+1027) ha) (aa aP (aa (z:=false) rfl (aa (z:=false) ?_ (aa (z:=false) rfl (aa (z:=true) ?_ (aa (z:=true) rfl (fm (aa (xU (n+1025)) rfl))))))))
   ·rw[if_neg (by decide)];exact aa (xT (n+1027) hb) (aa aP rfl)
   ·rw[if_neg (by decide)];exact aa (qQ (n+1026) hb.some) rfl
  ·rw[wU hd];exact L8 n ha.some hb.some hd
def EM(n:Nat){x y:Int}(hx:In x)(hy:In y):cA (n+3) 61 [ag x,ag y]=some (cz (lj (some x) (some y))):=VV n (a:=some x) (b:=some y) (aY hx) (aY hy)
def TT(n:Nat){x d:Int}(hx:In x)(hd:In d):cA (n+1030) 62 [ag x,ag d]=some (bW (kH (some x) (some d))):=Np n (a:=some x) (b:=some d) (aY hx) (aY hd)
def gY(n:Nat){a:Option Rat}(ha:OW a):cA (n+1030) 136 [bW a]=some (.bool a.isSome):=by
 cases a with
 | some q=>exact MY n ha.some
 | none=>
  rw[N7];delta Ef qG qB qT Jn;exact aa (z:=rK) rfl (aa (xT (n+1027) (a:=none) nF) (aa (z:=false) rfl (aa (z:=false) rfl (aa (z:=false) rfl (aa (z:=false) rfl (aa (z:=false) rfl (aa (z:=false) rfl rfl)))))))
def J3(n:Nat){a b:Option Rat}(ha:OW a)(hb:OW b):cA (n+1031) 173 [bW a,bW b]=some (bW (addW a b)):=by
 rcases ga (a:=a) (b:=b) with h|⟨x,y,rfl,rfl⟩
 ·have e:addW a b=none:=by cases a<;>cases b<;>simp at h<;>rfl
  rw[e,Oc];delta Ej qG qT qN;exact aa (gY n ha) (aa aP (aa ab (aa (rz h (gY n hb)) (aa (z:=true) rfl (fm (aa (xU (n+1026)) rfl))))))
 ·have hx:=ha.some;have hy:=hb.some;rw[Oc];delta Ej qG qT qN;refine aa (gY n ha) (aa aP (aa (z:=false) rfl (aa (z:=false) ?_ (aa (z:=false) rfl ?_))))
  ·rw[if_neg (by decide)];exact aa (gY n hb) (aa aP rfl)
  rw[if_neg (by decide)]
  obtain⟨g,p,q,hg,gp,hp,hq,p0,q0,ep,eq⟩:=Gt x y;have gi:=Fd (y:=y) hx;have g0:((Nat.gcd x.den y.den:Nat):Int)≠0:=by rw[<-hg];omega
  have h1:=CN (n+1) hx.2 hy.2;rw[zqa,zqa] at h1;have h2:=Ac (n+1024) hx.2 gi g0 ⟨p,by rw[<-hg,hp,zVa]⟩
  have h3:=Ac (n+1024) hy.2 gi g0 ⟨q,by rw[<-hg,hq,zVa]⟩
  have ip:=np hx.2 ((Nat.gcd x.den y.den:Nat):Int);have iq:=np hy.2 ((Nat.gcd x.den y.den:Nat):Int);refine aa (z:=ag (x.den:Int)) rfl (aa (z:=ag (y.den:Int)) rfl (aa h1 ?_));refine aa (z:=ag (x.den:Int)) rfl (aa h2 (aa (z:=ag (y.den:Int)) rfl (aa h3 (aa (z:=ag x.num) rfl (aa (EM (n+1027) hx.1 iq) (aa (z:=ag y.num) rfl (aa (EM (n+1027) hy.1 ip) (aa (VU (n+1026) (fr _ _) (fr _ _)) (aa (z:=ag (y.den:Int)) rfl (aa (EM (n+1027) ip hy.2) ?_))))))))));exact aa (Np n (wi _ _) (fr _ _)) rfl
def J4(n:Nat){a b:Option Rat}(ha:OW a)(hb:OW b):cA (n+1031) 174 [bW a,bW b]=some (bW (mulW a b)):=by
 rcases ga (a:=a) (b:=b) with h|⟨x,y,rfl,rfl⟩
 ·have e:mulW a b=none:=by cases a<;>cases b<;>simp at h<;>rfl
  rw[e,Od];delta El qG qT qN;exact aa (gY n ha) (aa aP (aa ab (aa (rz h (gY n hb)) (aa (z:=true) rfl (fm (aa (xU (n+1026)) rfl))))))
 ·have hx:=ha.some;have hy:=hb.some;rw[Od];delta El qG qT qN;refine aa (gY n ha) (aa aP (aa (z:=false) rfl (aa (z:=false) ?_ (aa (z:=false) rfl ?_))))
  ·rw[if_neg (by decide)];exact aa (gY n hb) (aa aP rfl)
  rw[if_neg (by decide)]
  obtain⟨v1,v2⟩:=BH x.num (cl y);obtain⟨w1,w2⟩:=BH y.num (cl x);rw[zqa] at v2 w2;have r1:=fK hx.1 hy.2 (cl y);have r2:=fK hy.1 hx.2 (cl x);refine aa (z:=ag x.num) rfl (aa (z:=ag (y.den:Int)) rfl (aa (L8 n hx.1 hy.2 (cl y)) (aa (z:=ag y.num) rfl (aa (z:=ag (x.den:Int)) rfl (aa (L8 n hy.1 hx.2 (cl x)) ?_)))));simp only[mulW,Jg];generalize Rat.divInt x.num y.den=P at *;generalize Rat.divInt y.num x.den=Q at *;refine aa (z:=ag P.num) rfl (aa (z:=ag Q.num) rfl (aa (EM (n+1027) r1.1 r2.1) (aa (z:=ag (P.den:Int)) rfl (aa (z:=ag (Q.den:Int)) rfl (aa (EM (n+1027) r1.2 r2.2) ?_)))));have hpos:0<(P.den:Int)*Q.den:=by
   have:=Nat.mul_pos P.den_pos Q.den_pos;rw[<-zVa];omega
  have c1:Nat.Coprime P.num.natAbs P.den:=P.reduced;have c2:Nat.Coprime Q.num.natAbs Q.den:=Q.reduced;have c3:Nat.Coprime P.num.natAbs Q.den:=Nat.Coprime.coprime_dvd_left v1 (Nat.Coprime.coprime_dvd_right w2 x.reduced);have c4:Nat.Coprime Q.num.natAbs P.den:=Nat.Coprime.coprime_dvd_left w1 (Nat.Coprime.coprime_dvd_right v2 y.reduced);have hred:Nat.gcd (P.num*Q.num).natAbs ((P.den:Int)*Q.den).natAbs=1:=by
   rw[zLa,<-zVa,zqa];exact Nat.Coprime.mul_left (Nat.Coprime.mul_right c1 c3) (Nat.Coprime.mul_right c4 c2)
  obtain⟨z1,z2⟩:=Ai hpos hred;simp only[lj,gB];by_cases t1:(P.num*Q.num).natAbs<dJ
  ·rw[if_pos t1];by_cases t2:((P.den:Int)*Q.den).natAbs<dJ
   ·rw[if_pos t2];refine aa (z:=.bool false) rfl (aa (z:=false) rfl (aa (z:=false) ?_ (aa (z:=false) rfl ?_)))
    ·rw[if_neg (by decide)]
     exact aa (z:=.bool false) rfl rfl
    rw[if_neg (by decide),wU (by omega)]
    show some (D.st [ag (P.num*Q.num),ag ((P.den:Int)*Q.den)])=some (D.st [ag (Rat.divInt (P.num*Q.num) ((P.den:Int)*Q.den)).num,ag ((Rat.divInt (P.num*Q.num) ((P.den:Int)*Q.den)).den:Int)]);rw[z1,z2]
   ·rw[if_neg t2];refine aa (z:=.bool false) rfl (aa (z:=false) rfl (aa (z:=true) ?_ (aa (z:=true) rfl (fm (aa (xU (n+1026)) rfl)))));rw[if_neg (by decide)]
    exact aa (z:=.bool true) rfl rfl
  ·rw[if_neg t1];exact aa (z:=.bool true) rfl (aa (z:=true) rfl (aa (z:=true) rfl (aa (z:=true) rfl (fm (aa (xU (n+1026)) rfl)))))
def Nc(n:Nat){a:Option Rat}(ha:OW a):cA (n+1031) 357 [bW a]=some (bW (LD a)):=by
 cases a with
 | some q=>exact TG n ha.some
 | none=>rw[Og];delta Eo qG qN;exact aa (gY n ha) (aa aP (aa (z:=true) rfl (fm (aa (xU (n+1026)) rfl))))
def J5(n:Nat){a b:Option Rat}(ha:OW a)(hb:OW b):cA (n+1032) 352 [bW a,bW b]=some (bW (wB a b)):=by
 rw[Vl];delta HX qG qN;cases b with
 | none=>exact aa (gY (n+1) hb) (aa aP (aa (z:=true) rfl (fm (aa (xU (n+1027)) rfl))))
 | some y=>
  refine aa (gY (n+1) hb) (aa aP (aa (z:=false) rfl ?_));rw[if_neg (by decide)]
  exact aa (z:=ag (y.den:Int)) rfl (aa (z:=ag y.num) rfl (aa (TT (n+1) hb.some.2 hb.some.1) (aa (J4 n ha (rt (aY hb.some.2) (aY hb.some.1))) rfl)))
def NV:Option Rat->Int
 | some q=>sg q.num
 | none=>0
def TD(n:Nat){a:Option Rat}(h:OW a):cA (n+1031) 342 [bW a]=some (I (NV a)):=by
 rw[Vi];delta HU qG qN Jn;cases a with
 | none=>exact aa (gY n h) (aa aP (aa (z:=true) rfl (fm rfl)))
 | some q=>
  refine aa (gY n h) (aa aP (aa (z:=false) rfl ?_));rw[if_neg (by decide)]
  exact aa (z:=ag q.num) rfl (aa (qQ (n+1027) h.some.1) rfl)
end Sy
end
noncomputable section
namespace Sy
open Go Go.Proofs Geo
end Sy
end
noncomputable section
namespace Sy
open Go Go.Proofs Geo
theorem wQ{body:Bd}{m:Nat}{r0:List D}(ok:Nat->Bool)(h:∀ i,i<m->body [I (i:Int)]=some (if ok i then .inl [I ((i+1:Nat):Int)] else .inr (0,r0)))(he:body [I (m:Int)]=some (.inr (1,[]))) :
  ∀ d j,j+d=m->aO body [I (j:Int)]=some (if((List.range d).all λt=>ok (j+t)) then(1,[]) else(0,r0))
 | 0,j,hj=>by
  have hj:j=m:=by omega
  subst hj;exact(cM he:aO body [I (j:Int)]=some (1,[]))
 | d+1,j,hj=>by
  have ih:=wQ ok h he d (j+1) (by omega)
  have hb:=h j (by omega)
  rw[List.range_succ_eq_map];simp only[zFb,List.all_map,zTb,Function.comp_def];cases hok:ok j with
  | false=>
   rw[hok] at hb;exact(cM hb:aO body [I (j:Int)]=some (0,r0))
  | true=>
   rw[hok] at hb;rw[show aO body [I (j:Int)]=aO body [I ((j+1:Nat):Int)] from cS hb,ih];simp only[zOb,Nat.succ_eq_add_one,zwb,zrc 1]
def rd(m:Int)(x:Int):Bool:=decide (-m<x)&&decide (x<m)
def kT(v:V)(i:Nat):Int:=if i=0 then v.x else if i=1 then v.y else v.z
def yw{v:V}{i:Nat}(h:i<3):D.get (ac v) [i]=some (I (kT v i)):=by
 have:i=0\/i=1\/i=2:=by omega
 rcases this with rfl|rfl|rfl<;>rfl
end Sy
end
noncomputable section
namespace Sy
open Go Go.Proofs Geo
def TH(n:Nat){a b:Int}(ha:a.natAbs<=9223372036854775807)(hb:b.natAbs<=9223372036854775807):cA (n+1) 364 [I a,I b]=some (I (Nat.gcd a.natAbs b.natAbs:Nat)):=by
 rw[Vm,show HY aO (cA n) (I a) (I b)=Eh aO (cA n) (I a) (I b) from rfl,<-N9];exact KL n ha hb
def TI(n:Nat)(a:Int):cA (n+1) 365 [I a]=some (I (sg a)):=by
 rw[Vn];delta HZ qC Jn;refine aa ah (aa ab ?_);by_cases h:a<0
 ·refine az h ?_;rw[show sg a=-1 by unfold sg;rw[if_pos h]]
 ·refine aG h ?_;by_cases h0:0<a
  ·rw[show sg a=1 by unfold sg;rw[if_neg h,if_pos h0]]
   have e:D.min2 (I a) (I 1)=some (I 1):=by
    simp only[D.min2];split
    ·rfl
    ·rw[show a=1 by omega]
   exact aa e rfl
  ·have e0:a=0:=by omega
   subst e0;rfl
def kF(q:Nat->Int):D:=.st [I (q 0),I (q 1),I (q 2),I (q 3)]
def uX{q:Nat->Int}{i:Nat}(h:i<4):D.get (kF q) [i]=some (I (q i)):=by
 have:i=0\/i=1\/i=2\/i=3:=by omega
 rcases this with rfl|rfl|rfl|rfl<;>rfl
def De(q:Nat->Int):Bool:=(List.range 4).all λt=>rd 65 (q (0+t))
def BX{q:Nat->Int}(h:De q=true):∀ i,i<4->(q i).natAbs<=64:=by
 intro i hi;have:=zka.1 h i (zNa.2 hi);simp only[rd,zaa,decide_eq_true_eq,z6a] at this;omega
def TE(n:Nat)(q:Nat->Int):cA (n+1) 348 [kF q]=some (.bool (De q)):=by
 rw[Vj];delta HV qB qC qT qJ qZ iL iR Jn;refine m9 (r:=if De q then(1,[]) else(0,[.bool false])) (wQ (m:=4) (λi=>rd 65 (q i)) (λi hi=>?_) ?_ 4 0 rfl) ?_
 ·have hi':D.idx (I (i:Int)) 4=some i:=ap hi;refine aa ah (aa ab (az (by show(i:Int)<4;omega) ?_))
  have hx:=uX (q:=q) hi;refine aa hi' (aa hx ?_);generalize q i=x at *;by_cases h1:x>64
  ·have e:rd 65 x=false:=by simp[rd];omega
   refine aa (z:=.bool true) (by simp[D.bin,h1]) (aa (z:=true) rfl (aa (z:=true) rfl (aa (z:=true) rfl ?_)))
   rw[if_pos rfl,e];rfl
  ·refine aa (z:=.bool false) (by simp[D.bin,h1]) (aa (z:=false) rfl ?_)
   by_cases h2:x < -64
   ·have e:rd 65 x=false:=by simp[rd];omega
    refine aa (z:=true) ?_ (aa (z:=true) rfl ?_)
    ·rw[if_neg (by decide)]
     exact aa hi' (aa hx (aa (z:=.bool true) (by simp[D.bin,h2]) rfl))
    ·rw[if_pos rfl,e];rfl
   ·have e:rd 65 x=true:=by simp[rd];omega
    refine aa (z:=false) ?_ (aa (z:=false) rfl ?_)
    ·rw[if_neg (by decide)]
     exact aa hi' (aa hx (aa (z:=.bool false) (by simp[D.bin,h2]) rfl))
    ·rw[if_neg (by decide),e]
     exact aa (a8 (a:=i) (b:=1) (by omega)) rfl
 ·exact aa ah (aa ab (aG (by decide) rfl))
 ·cases De q<;>rfl
end Sy
end
noncomputable section
namespace Sy
open Go Go.Proofs Geo
def LC{body:Bd}{s0:List D}{k:Nat×List D->Option D}{Q:D->Prop}(h:∃ r,aO body s0=some r/\∃ y,k r=some y/\Q y):∃ y,Option.bind (aO body s0) k=some y/\Q y:=by
 obtain⟨r,h1,y,h2,h3⟩:=h;exact⟨y,m9 h1 h2,h3⟩
def cY{α β:Type}{A:Option α}{g:α->Option β}{Q:β->Prop}{z:α}(h:A=some z)(hk:∃ y,g z=some y/\Q y):∃ y,Option.bind A g=some y/\Q y:=by
 subst h;exact hk
theorem Nx{body:Bd}{q:Nat->Int}(h1:∀ (g s:Int) (k:Nat),k<4->0<=g->g<=64->s.natAbs<=1->∃ g' s':Int,body [I g,I s,I (k:Int)]=some (.inl [I g',I s',I ((k:Int)-1)])/\0<=g'/\g'<=64/\s'.natAbs<=1/\(s'≠0->s≠0\/q k≠0))
  (h2:∀ g s:Int,body [I g,I s,I (-1)]=some (.inr (0,[I g,I s]))):∀ (c:Nat),c<=4->∀ g s:Int,0<=g->g<=64->s.natAbs<=1->(s≠0->∃ i,i<4/\q i≠0) ->
   ∃ g' s':Int,aO body [I g,I s,I ((c:Int)-1)]=some (0,[I g',I s'])/\0<=g'/\g'<=64/\s'.natAbs<=1/\(s'≠0->∃ i,i<4/\q i≠0)
 | 0,_,g,s,g0,g1,s1,hz=>⟨g,s,cM (h2 g s),g0,g1,s1,hz⟩
 | c+1,hc,g,s,g0,g1,s1,hz=>by
  obtain⟨g',s',k1,k2,k3,k4,k5⟩:=h1 g s c (by omega) g0 g1 s1
  obtain⟨g2,s2,j1,j2⟩:=Nx h1 h2 c (by omega) g' s' k2 k3 k4 (λh=>(k5 h).elim hz (λh=>⟨c,by omega,h⟩))
  refine⟨g2,s2,?_,j2⟩;rw[show(((c+1:Nat):Int)-1)=(c:Int) by omega]
  exact(cS k1).trans j1
def Nw{body:Bd}{q:Nat->Int}{k:Nat×List D->Option D}{Q:D->Prop}(h1:∀ (g s:Int) (k:Nat),k<4->0<=g->g<=64->s.natAbs<=1->∃ g' s':Int,body [I g,I s,I (k:Int)]=some (.inl [I g',I s',I ((k:Int)-1)])/\0<=g'/\g'<=64/\s'.natAbs<=1/\(s'≠0->s≠0\/q k≠0))
  (h2:∀ g s:Int,body [I g,I s,I (-1)]=some (.inr (0,[I g,I s]))) (h3:∀ g s:Int,0<=g->g<=64->s.natAbs<=1->(s≠0->∃ i,i<4/\q i≠0)->∃ y,k (0,[I g,I s])=some y/\Q y):∃ y,Option.bind (aO body [I 0,I 0,I 3]) k=some y/\Q y:=by
 obtain⟨g,s,e,g0,g1,s1,hz⟩:=Nx h1 h2 4 (zha _) 0 0 (by decide) (by decide) (by decide) (λh=>absurd rfl h)
 exact LC ⟨_,e,h3 g s g0 g1 s1 hz⟩
def TF(n:Nat){q:Nat->Int}(hq:∀ i,i<4->(q i).natAbs<=64):∃ r,cA (n+2) 349 [kF q]=some r/\∃ y b,r=.tup [y,.bool b]/\(b=true->∃ i,i<4/\q i≠0):=by
 rw[Vk];delta HW qG qB qC qT qJ qZ iL iR Jn;refine Nw (q:=q) (λg s k hk g0 g1 s1=>?_) (λg s=>aa (z:=.bool false) rfl (aa (z:=false) rfl rfl)) (λg s g0 g1 s1 hz=>?_)
 ·have hi:D.idx (I (k:Int)) 4=some k:=ap hk;have hx:=uX (q:=q) hk;have hqk:=hq k hk;have hg:=TH (n) (a:=g) (b:=q k) (by omega) (by omega)
  have gle:Nat.gcd g.natAbs (q k).natAbs<=64:=pp (by omega) hqk
  refine⟨((Nat.gcd g.natAbs (q k).natAbs:Nat):Int),if q k=0 then s else sg (q k),aa (z:=.bool true) (by simp[D.bin]) (aa (z:=true) rfl (fm (aa (z:=(0,[I ((Nat.gcd g.natAbs (q k).natAbs:Nat):Int),I (if q k=0 then s else sg (q k))])) (aa hi (aa hx (aa hg (aa hi (aa hx ?_))))) (aa (z:=I ((k:Int)-1)) ?_ rfl)))),by omega,by omega,?_,?_⟩
  ·by_cases h:q k=0
   ·rw[h];exact aa (z:=false) rfl rfl
   ·rw[if_neg h];refine aa (z:=true) (by rw[bK];simp[h,D.truth]) (fm (aa hi (aa hx (aa (TI n (q k)) rfl))))
  ·have:k=0\/k=1\/k=2\/k=3:=by omega
   rcases this with rfl|rfl|rfl|rfl<;>rfl
  ·split
   ·exact s1
   ·unfold sg;split<;>(try split)<;>decide
  ·intro h;by_cases h0:q k=0
   ·left;rw[if_pos h0] at h;exact h
   ·exact .inr h0
 ·have ms:(s*g).natAbs<=64:=by
   have:=z2a s1 (show g.natAbs<=64 by omega)
   rwa [<-zLa,zyc] at this
  refine cY (mK (a:=g) (by simp only[inR];omega)) (cY (z:=I g) ((B3 (a:=g) (b:=-g)).trans (by congr 2;omega)) (cY (ca (a:=s) (b:=g) (by simp only[inR];omega)) ?_))
  by_cases h:s*g=0
  ·rw[h];exact cY (z:=true) rfl ⟨_,rfl,_,false,rfl,λh=>by cases h⟩
  ·have hs:s≠0:=λh0=>h (by rw[h0,zYc])
   refine cY (z:=false) (by rw[bK,decide_eq_false h];rfl) ?_
   have qq:∀ x:Int,∃ z,D.bin .quo (I x) (I (s*g))=some z:=λx=>⟨D.int .i64 (IntKind.i64.wrap (x.tdiv (s*g))),by simp only[D.bin,if_true,if_neg h]⟩
   obtain⟨z0,e0⟩:=qq (q 0);obtain⟨z1,e1⟩:=qq (q 1);obtain⟨z2,e2⟩:=qq (q 2);obtain⟨z3,e3⟩:=qq (q 3);rw[if_neg (by decide)]
   exact cY (uX (i:=0) (by decide)) (cY e0 (cY (uX (i:=1) (by decide)) (cY e1 (cY (uX (i:=2) (by decide)) (cY e2 (cY (uX (i:=3) (by decide)) (cY e3 ⟨_,rfl,_,true,rfl,λ_=>hz hs⟩)))))))
end Sy
end
noncomputable section
namespace Sy
open Go Go.Proofs Geo
def TC(n:Nat)(q:Nat->Int):∃ v:Bool,cA (n+3) 331 [kF q]=some (.bool v)/\(v=true->De q=true/\∃ i,i<4/\q i≠0):=by
 rw[Vh];delta HT qT qN;have h348:=TE (n+1) q;cases hl:De q with
 | false=>
  rw[hl] at h348;exact⟨false,aa h348 (aa (z:=.bool true) rfl (aa (z:=true) rfl (fm rfl))),λh=>by cases h⟩
 | true=>
  rw[hl] at h348;obtain⟨r,h1,y,b,rfl,h2⟩:=TF n (BX hl);cases b with
  | false=>
   refine⟨false,aa h348 (aa (z:=.bool false) rfl (aa (z:=false) rfl ?_)),λh=>by cases h⟩
   rw[if_neg (by decide)]
   exact aa h1 (aa (z:=y) rfl (aa (z:=.bool false) rfl (aa (z:=false) rfl (aa (z:=false) rfl rfl))))
  | true=>
   refine⟨D.beq y (kF q),aa h348 (aa (z:=.bool false) rfl (aa (z:=false) rfl ?_)),λ_=>⟨rfl,h2 rfl⟩⟩;rw[if_neg (by decide)]
   exact aa h1 (aa (z:=y) rfl (aa (z:=.bool true) rfl (aa (z:=true) rfl (aa (z:=D.beq y (kF q)) (fm rfl) rfl))))
def eV(x:V)(q:Nat->Int):D:=.st [ac x,kF q]
end Sy
end
noncomputable section
namespace Sy
open Go Go.Proofs Geo
end Sy
end
noncomputable section
namespace Sy
open Go Go.Proofs Geo
end Sy
end
noncomputable section
namespace Sy
open Go Go.Proofs Geo
structure Bdy where
 nm:ByteArray
 P:List (List V)
 m0:Int
 m1:Int
 r0:Int
 r1:Int
def IN{v:V}{k:Int}(h:∀ t,t<3->kT v t<=k/\-k<=kT v t):bd k v:=by
 have a:=h 0 (by decide);have b:=h 1 (by decide);have c:=h 2 (by decide)
 simp only[kT,if_true,if_false,Nat.one_ne_zero,Nat.reduceEqDiff] at a b c;exact⟨⟨a.2,a.1⟩,⟨b.2,b.1⟩,⟨c.2,c.1⟩⟩
def yp{v:V}{i:Nat}(h:i<3):D.fld (ac v) i=some (I (kT v i)):=by
 have:i=0\/i=1\/i=2:=by omega
 rcases this with rfl|rfl|rfl<;>rfl
structure Hul(l:List V):Prop where
 len:l.length<=64
 bd:∀ x∈l,bd MV x
 srt:Ev l
 vtx:∀ k,k<l.length->MN (pt l) l.length k
 ex:∃ m d,IsF (pt l) l.length m d
def To(n:Nat){l:List V}(h:l.length<=100):(∃ e:Int,cA (n+9) 15 [cm l]=some (I e)/\e≠0)\/(cA (n+9) 15 [cm l]=some (I 0)/\Hul l):=by
 rcases XX n (l:=l) h with⟨e,h1,h2⟩|⟨h1,h2,h3,F,h4,hne,_,h5⟩
 ·exact .inl ⟨e,h1,h2⟩
 ·right;have ho:=List.Pairwise.sublist (DS (dn l) F) (tN l);rw[h5] at ho;have hs:=Gr ho;rw[JH ho] at h4 h5;refine⟨h1,h2,h3,hs,λk hk=>?_,?_⟩
  ·refine Fl hs h4.fok ?_;have e:=congrArg List.length h5;unfold cW at e;rw[zua] at e;have e2:((List.range l.length).filter (iY F)).length=(List.range l.length).length:=by rw[e,zQb]
   exact List.length_filter_eq_length_iff.1 e2 k (zNa.2 hk)
  ·obtain⟨f,hf⟩:∃ f,f∈F:=List.exists_mem_of_ne_nil F (λe=>hne (by rw[e];rfl))
   exact⟨_,_,(h4.fok.ok f hf).1⟩
def Hul.pos{l:List V}(h:Hul l):0<l.length:=by
 obtain⟨m,d,hF⟩:=h.ex;obtain⟨i,j,k,h1,h2,h3,_⟩:=hF.ex;omega
end Sy
end
end Go.Proofs.YtphlmegkommlnaaGreatDoor
