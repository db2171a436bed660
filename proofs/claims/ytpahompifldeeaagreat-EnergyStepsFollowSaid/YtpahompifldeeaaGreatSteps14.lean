/- Part 14 of the proof that For every yard with at most 6 things -/
import Derived.Test.YtpahompifldeeaaGreatSteps02
import Derived.Test.YtpahompifldeeaaGreatSteps09
import Derived.Test.YtpahompifldeeaaGreatSteps13
set_option linter.unusedVariables false
set_option linter.unusedSimpArgs false
set_option linter.unnecessarySimpa false
set_option linter.defProp false
set_option maxRecDepth 20000
namespace Go.Proofs.YtpahompifldeeaaGreat
noncomputable section
namespace Sy
open Go Go.Proofs Geo
def UW(n:Nat)(x:Int):∃ b:Bool,cA (n+1) 375 [.int .u8 x]=some (.bool b):=by
 rw[W5];delta IW qB qC qT;by_cases h1:x ≥ 97<;>by_cases h2:x<=122<;>by_cases h3:x ≥ 65<;>by_cases h4:x<=90<;>exact⟨_,by simp[D.bin,D.truth,h1,h2,h3,h4];rfl⟩
end Sy
end
noncomputable section
namespace Sy
open Go Go.Proofs Geo
def J0(n:Nat)(L:FL)(f:(V×Int)×List Nat)(c1 c2:D){P:D}(hP:lc f.1 f.2=.st [ag f.1.1,I f.1.2,P])(hL:L.length<=3000000):JZ aN (cA (n+1)) (.sl (ao L)) c1 c2 (ag f.1.1) (I f.1.2) P=some (0,[.sl (ao (fY f L)),c1,c2]):=by
 delta JZ qB qT qN qX qL qV qW qZ iL iR Jn
 have app:∀ (o:FL) (x:(V×Int)×List Nat),ao o++[lc x.1 x.2]=ao (o++[x]):=λo x=>by simp[ao]
 refine bT (λi s=>∃ (out:FL) (put:Bool),s=[.sl (ao L),.sl (ao out),.bool put,I (i:Int),c1,c2,ag f.1.1,ag f.1.1,I f.1.2,P]/\out.length<=2*i/\(put=false->fY f L=out++fY f (L.drop i))/\(put=true->fY f L=out++L.drop i)) L.length 0 (zga _) ⟨[],false,rfl,by simp,by simp,by simp⟩ (λi hi s hJ=>?_) (λs hJ=>?_)
 ·obtain⟨out,put,rfl,hol,h1,h2⟩:=hJ;left;have hd:L.drop i=L[i]::L.drop (i+1):=zkb hi;have hc:=LU n f.1.1 L[i].1.1;obtain⟨o,p,he,ho,q1,q2⟩:∃ o p,(if put=false/\aF f.1.1 L[i].1.1 then(out++[f],true) else(out,put))=(o,p)/\o.length<=2*i+1/\(p=false->fY f L=o++L[i]::fY f (L.drop (i+1)))/\(p=true->fY f L=o++L[i]::L.drop (i+1)):=by
   by_cases hput:put=false/\aF f.1.1 L[i].1.1
   ·refine⟨_,_,if_pos hput,by simp;omega,by simp,λ_=>?_⟩
    rw[h1 hput.1,hd];simp[fY,hput.2]
   ·refine⟨_,_,if_neg hput,by omega,λhp=>?_,λhp=>?_⟩
    ·have hnl:¬ aF f.1.1 L[i].1.1:=λh=>hput ⟨hp,h⟩;rw[h1 hp,hd];simp[fY,hnl]
    ·rw[h2 hp,hd]
  refine⟨[.sl (ao L),.sl (ao (o++[L[i]])),.bool p,I ((i+1:Nat):Int),c1,c2,ag f.1.1,ag f.1.1,I f.1.2,P],?_,o++[L[i]],p,rfl,by simp;omega,λhp=>by rw[q1 hp];simp,λhp=>by rw[q2 hp];simp⟩
  refine aa (z:=ao L) rfl (aa af (aa ae (aC (by show((i:Int)<((ao L).length:Int));rw[aA];omega) ?_)))
  refine(aa (z:=ao L) rfl (aa (z:=i) (by rw[aA];exact ak hi) (aa (cJ hi) (aa (z:=ag L[i].1.1) rfl (aa hc ?_)))))
  refine aa (z:=(0,[.sl (ao o),.bool p,c1,c2,ag f.1.1,ag f.1.1,I f.1.2,P])) ?_ ?_
  ·refine aa (z:=.bool (!put)) rfl (aa (z:=!put) rfl (aa (z:=!put&&decide (aF f.1.1 L[i].1.1)) ?_ (aa (z:=!put&&decide (aF f.1.1 L[i].1.1)) rfl ?_)))
   ·cases put
    ·exact ae
    ·rfl
   ·by_cases hput:put=false/\aF f.1.1 L[i].1.1
    ·rw[if_pos hput] at he;obtain⟨rfl,hlt⟩:=hput;cases he;rw[show(!false&&decide (aF f.1.1 L[i].1.1))=true by simp[hlt],if_pos rfl,if_pos (by simp only[zgc,zfc,D.els,aA,zDa,zib];omega)]
     simp only[zgc,zfc,D.els,<-hP,app]
    ·rw[if_neg hput] at he;cases he;rw[show(!put&&decide (aF f.1.1 L[i].1.1))=false by
      cases put
      ·simpa using hput
      ·rfl]
     rfl
  ·refine aa (z:=ao L) rfl (aa (z:=i) (by rw[aA];exact ak hi) (aa (cJ hi) ?_))
   rw[if_pos (by simp only[zgc,zfc,D.els,aA,zDa,zib];omega)]
   refine aa (av (aw (i:=i) (by omega))) ?_
   simp only[zgc,zfc,D.els,<-hP,app];rfl
 ·obtain⟨out,put,rfl,hol,h1,h2⟩:=hJ;refine⟨(0,[.sl (ao out),.bool put,c1,c2,ag f.1.1,ag f.1.1,I f.1.2,P]),?_,?_⟩
  ·exact aa (z:=ao L) rfl (aa af (aa ae (az (by show ¬ ((L.length:Int)<((ao L).length:Int));rw[aA];omega) rfl)))
  ·cases put
   ·have:=h1 rfl;rw[zzc] at this;rw[this];refine aa (z:=(0,[.sl (ao (out++[f])),c1,c2,ag f.1.1])) ?_ rfl;refine aa (z:=.bool true) rfl (aa (z:=true) rfl ?_);rw[if_pos rfl,if_pos (by simp only[zgc,zfc,D.els,aA,zDa,zib];omega)]
    simp only[zgc,zfc,D.els,<-hP,app]
   ·have:=h2 rfl;rw[zzc,z4b] at this;rw[this];rfl
def Lu(n:Nat)(c1 c2:D){l:List V}(hl:∀ x∈l,bd MV x)(hlen:l.length<=100)(hs:EV l){F:FL}(hF:FOk l F){i j k:Nat}(hij:i<j)(hjk:j<k)(hk:k<l.length){m:V}(hm:m=br (dI (pt l) i j k)\/m=(br (dI (pt l) i j k)).neg){α:Type}{g:D->Nat×List D->Option α}{Y:α->Prop}
  (hg:∀ F':FL,FOk l F'->(∀ f∈F,f∈F')->(dI (pt l) i j k≠V.zero->uB (pt l) l.length m (V.dot m (pt l i))->(m,V.dot m (pt l i))∈F'.map Prod.fst)->∃ y,g (I (V.dot m (pt l i))) (0,[.sl (ao F'),c1,c2])=some y/\Y y) :
  ∃ y,(Option.bind (cA (n+4) 107 [(ag m),(ag (pt l i))]) λr32=>
 Option.bind (cA (n+4) 108 [(.sl (ao F)),(ag m)]) λr33=>
 Option.bind (Option.bind (D.un .not r33) λx34=>
 Option.bind (D.truth x34) λb35=>
 Option.bind (if b35 then(Option.bind (D.un .not (D.bool (D.beq (ag m) (D.st [(D.int .i64 0),(D.int .i64 0),(D.int .i64 0)])))) λx36=>
 D.truth x36) else(some false)) λb37=>
 Option.bind (D.truth (D.bool b37)) λb38=>
 Option.bind (if b38 then(Option.bind (cA (n+4) 109 [aS l,(ag m),r32]) λr39=>
 D.truth r39) else(some false)) λb40=>
 Option.bind (D.truth (D.bool b40)) λb41=>
 if b41 then(Option.bind (cA (n+4) 111 [aS l,(ag m),r32]) λr42=>
 JZ aN (cA (n+4)) (.sl (ao F)) c1 c2 (ag m) r32 r42) else(some (0,[(.sl (ao F)),c1,c2]))) (g r32))=some y/\Y y:=by
 have hi:i<l.length:=by omega
 have bt:bd 549755813888 (br (dI (pt l) i j k)):=je (dX (jf (P:=pt l) (hl _ (ca hi)) (hl _ (ca (show j<l.length by omega)))) (jf (P:=pt l) (hl _ (ca hi)) (hl _ (ca hk))))
 have bm:bd 549755813888 m:=by
  rcases hm with rfl|rfl
  ·exact bt
  ·exact nk bt
 have hFl:=hF.len hlen;have hmz:m=V.zero↔dI (pt l) i j k=V.zero:=by
  rcases hm with rfl|rfl
  ·exact kF
  ·rw[vP,kF]
 refine ab (At (n+3) bm (hl _ (ca hi)) (by decide)) (ab (NH (n+3) F m (by omega)) ?_)
 obtain⟨d,hd⟩:∃ d,V.dot m (l.getD i V.zero)=d:=⟨_,rfl⟩;have hdp:V.dot m (pt l i)=d:=hd;rw[hdp] at hg;rw[hdp];by_cases hkn:(F.any λf=>decide (f.1.1=m))=true
 ·rw[hkn];refine ab (z:=(0,[.sl (ao F),c1,c2])) (aa (z:=.bool false) rfl (aa (z:=false) rfl (aa (z:=false) rfl (aa (z:=false) rfl (aa (z:=false) rfl (aa (z:=false) rfl rfl)))))) (hg F hF (λf hf=>hf) λht hsp=>?_);obtain⟨f,hf,hfm⟩:=zTc.1 hkn;have hfm:f.1.1=m:=by simpa using hfm
  have h1:=(hF.ok f hf).1;rw[hfm] at h1;have h2:IsF (pt l) l.length m d:=⟨⟨i,j,k,hij,hjk,hk,ht,hm,hdp.symm⟩,hsp⟩;exact z5a.2 ⟨f,hf,Prod.ext hfm (IsF.d_eq h1 h2)⟩
 ·rw[Bool.not_eq_true] at hkn;rw[hkn];have hnk:∀ f∈F,f.1.1≠m:=λf hf e=>by
   have:=List.any_eq_false.1 hkn f hf;simp[e] at this
  by_cases hz:m=V.zero
  ·refine ab (z:=(0,[.sl (ao F),c1,c2])) (aa (z:=.bool true) rfl (aa (z:=true) rfl (aa (z:=false) ?_ (aa (z:=false) rfl (aa (z:=false) rfl (aa (z:=false) rfl rfl)))))) (hg F hF (λf hf=>hf) λht hsp=>absurd (hmz.1 hz) ht);rw[if_pos rfl,kp,im,decide_eq_true (show m=⟨0,0,0⟩ from hz)];rfl
  ·have ht:dI (pt l) i j k≠V.zero:=λe=>hz (hmz.2 e);have hc:=NI (n+2) (d:=d) hl bm (by decide) (by omega)
   by_cases hsp:supp l (m,d)=true
   ·have hFm:IsF (pt l) l.length m d:=⟨⟨i,j,k,hij,hjk,hk,ht,hm,hdp.symm⟩,j9.1 hsp⟩;obtain⟨p,hp,_,_⟩:=hFm.poly hs;refine ab (z:=(0,[.sl (ao (fY ((m,d),p) F)),c1,c2])) (aa (z:=.bool true) rfl (aa (z:=true) rfl (aa (z:=true) ?_ (aa (z:=true) rfl (aa (z:=true) ?_ (aa (z:=true) rfl ?_)))))) (hg _ (hF.insert hnk hFm hp) (λf hf=>iF.2 (.inr hf)) λ_ _=>z5a.2 ⟨((m,d),p),iF.2 (.inl rfl),rfl⟩)
    ·rw[if_pos rfl,kp,im,decide_eq_false (show ¬ m=⟨0,0,0⟩ from hz)];rfl
    ·rw[if_pos rfl];refine aa hc ?_;rw[ae];exact congrArg some hsp
    ·rw[if_pos rfl];exact aa (OG n hl hlen hs hFm bm hp) (J0 (n+3) F ((m,d),p) c1 c2 rfl (by omega))
   ·refine ab (z:=(0,[.sl (ao F),c1,c2])) (aa (z:=.bool true) rfl (aa (z:=true) rfl (aa (z:=true) ?_ (aa (z:=true) rfl (aa (z:=false) ?_ (aa (z:=false) rfl rfl)))))) (hg F hF (λf hf=>hf) λ_ hsp'=>absurd (j9.2 hsp') hsp)
    ·rw[if_pos rfl,kp,im,decide_eq_false (show ¬ m=⟨0,0,0⟩ from hz)];rfl
    ·rw[if_pos rfl];refine aa hc ?_;rw[ae];exact congrArg some (zJb.2 hsp)
def ZI{x y z w:D}{l:List D}{d:D}:List.getD (x::y::z::w::l) 3 d=w:=rfl
def ZJ{x y z w v:D}{l:List D}{d:D}:List.getD (x::y::z::w::v::l) 4 d=v:=rfl
def Cg(n:Nat){l:List V}(hl:∀ x∈l,bd MV x)(hlen:l.length<=100)(hs:EV l)(c1 c2:D){α:Type}{K:Nat×List D->Option α}{Y:α->Prop}(hK:∀ F:FL,KnF l l.length 0 0 F->∃ y,K (0,[.sl (ao F),c1,c2])=some y/\Y y):∃ y,Option.bind (JQ aN (cA (n+6)) (aS l) c1 c2) K=some y/\Y y:=by
 delta JQ qB qC qT qN qX qL qW qZ iL iR Jn
 have ll:(l.map ag).length=l.length:=zoa ..;refine cW (λi s=>∃ F:FL,s=[.sl (ao F),I (i:Int),c1,c2]/\KnF l i 0 0 F) l.length 0 (zga _) ⟨[],rfl,⟨.nil,by simp⟩,λi' j' k' h1 h2 h3 h4=>by omega⟩ (λi hi s hJ=>?_) (λs hJ=>?_)
 ·obtain⟨F,rfl,hF⟩:=hJ;refine ab (z:=l.map ag) rfl (ab af (ab ae (bA (by show((i:Int)<((l.map ag).length:Int));rw[ll];omega) (ab (av (aw (i:=i) (by omega))) ?_))))
  refine cW (λj s=>i+1<=j/\∃ F:FL,s=[.sl (ao F),I (j:Int),c1,c2]/\KnF l i j 0 F) l.length (i+1) (by omega) ⟨zja _,F,rfl,hF.mono λi' j' k' h1 h2 h3 h4=>by omega⟩ (λj hj s hJ=>?_) (λs hJ=>?_)
  ·obtain⟨hij,F,rfl,hF⟩:=hJ;refine ab (z:=l.map ag) rfl (ab af (ab ae (bA (by show((j:Int)<((l.map ag).length:Int));rw[ll];omega) (ab (av (aw (i:=j) (by omega))) ?_))))
   refine cW (λk s=>j+1<=k/\∃ F:FL,s=[.sl (ao F),I (k:Int),c1,c2]/\KnF l i j k F) l.length (j+1) (by omega) ⟨zja _,F,rfl,hF.mono λi' j' k' h1 h2 h3 h4=>by omega⟩ (λk hk s hJ=>?_) (λs hJ=>?_)
   ·obtain⟨hjk,F,rfl,hF⟩:=hJ;refine ab (z:=l.map ag) rfl (ab af (ab ae (bA (by show((k:Int)<((l.map ag).length:Int));rw[ll];omega) ?_)))
    refine ab (z:=l.map ag) rfl (ab (z:=i) (by rw[ll];exact ak hi) (ab (cB hi) (ab (z:=l.map ag) rfl (ab (z:=j) (by rw[ll];exact ak hj) (ab (cB hj) (ab (z:=l.map ag) rfl (ab (z:=k) (by rw[ll];exact ak hk) (ab (cB hk) (ab (z:=ag (br (dI (pt l) i j k))) (NG n (hl _ (ca hi)) (hl _ (ca hj)) (hl _ (ca hk))) ?_)))))))))
    have bt:bd 549755813888 (br (dI (pt l) i j k)):=je (dX (jf (P:=pt l) (hl _ (ca hi)) (hl _ (ca hj))) (jf (P:=pt l) (hl _ (ca hi)) (hl _ (ca hk))));obtain⟨p,hp⟩:∃ p,br (dI (pt l) i j k)=p:=⟨_,rfl⟩;rw[hp] at bt ⊢;have z0:bd 0 V.zero:=by simp only[bd,V.zero];omega
    have e1:V.zero.sub p=p.neg:=by apply V.ext'<;>simp[V.sub,V.neg,V.zero]
    have e2:V.zero.sub p.neg=p:=by apply V.ext'<;>simp[V.sub,V.neg,V.zero]
    refine cW (λt s=>∃ F':FL,s=[.sl (ao F'),I (t:Int),c1,c2,ag (mt p t)]/\FOk l F'/\(∀ f∈F,f∈F')/\(1<=t->dI (pt l) i j k≠V.zero->uB (pt l) l.length p (V.dot p (pt l i))->(p,V.dot p (pt l i))∈F'.map Prod.fst)/\(2<=t->dI (pt l) i j k≠V.zero->uB (pt l) l.length p.neg (V.dot p.neg (pt l i))->(p.neg,V.dot p.neg (pt l i))∈F'.map Prod.fst)) 2 0 (by omega) ⟨F,rfl,hF.fok,λf hf=>hf,λh=>by omega,λh=>by omega⟩ (λt ht s hJ=>?_) (λs hJ=>?_)
    ·obtain⟨F',rfl,f1,f2,f3,f4⟩:=hJ;refine ab af (ab ae (bA (by show((t:Int)<2);omega) (ab (z:=l.map ag) rfl (ab (z:=i) (by rw[ll];exact ak hi) (ab (cB hi) ?_)))))
     have ht':t=0\/t=1:=by omega
     simp only[g0,g1,g2,ZI,ZJ];rcases ht' with rfl|rfl
     ·rw[show mt p 0=p from rfl];refine Lu (n+2) c1 c2 hl hlen hs f1 (show i<j by omega) (show j<k by omega) hk (m:=p) (.inl hp.symm) (λF2 k1 k2 k3=>?_)
      refine⟨.inl [.sl (ao F2),I ((0+1:Nat):Int),c1,c2,ag p.neg],?_,?_⟩
      ·refine aa (z:=ag p.neg) ?_ ?_
       ·have:=wI (n+5) z0 bt (by decide)
        rw[e1] at this;exact this
       ·exact aa (av Mn) rfl
      ·exact⟨F2,rfl,k1,λf hf=>k2 f (f2 f hf),λ_=>k3,λh=>by omega⟩
     ·rw[show mt p 1=p.neg from rfl];refine Lu (n+2) c1 c2 hl hlen hs f1 (show i<j by omega) (show j<k by omega) hk (m:=p.neg) (.inr (by rw[hp])) (λF2 k1 k2 k3=>?_)
      refine⟨.inl [.sl (ao F2),I ((1+1:Nat):Int),c1,c2,ag p],?_,F2,rfl,k1,λf hf=>k2 f (f2 f hf),λ_ h1 h2=>?_,λ_=>k3⟩
      ·refine aa (z:=ag p) ?_ ?_
       ·have:=wI (n+5) z0 (nk bt) (by decide)
        rw[e2] at this;exact this
       ·exact aa (av tg) rfl
      ·obtain⟨f,hf,e⟩:=z5a.1 (f3 (zja _) h1 h2);exact z5a.2 ⟨f,k2 f hf,e⟩
    ·obtain⟨F',rfl,f1,f2,f3,f4⟩:=hJ;refine⟨.inr (0,[.sl (ao F'),c1,c2]),aa af (aa ae (az (by decide) rfl)),.inl [.sl (ao F'),I ((k+1:Nat):Int),c1,c2],aa (av (aw (i:=k) (by omega))) rfl,by omega,F',rfl,f1,λi' j' k' h1 h2 h3 h4 h5 m h6 h7=>?_⟩
     by_cases e:i'=i/\j'=j/\k'=k
     ·obtain⟨rfl,rfl,rfl⟩:=e;rw[hp] at h6;rcases h6 with rfl|rfl
      ·exact f3 (by omega) h5 h7
      ·exact f4 (by omega) h5 h7
     ·obtain⟨f,hf,e⟩:=z5a.1 (hF.all i' j' k' h1 h2 h3 (by omega) h5 m h6 h7)
      exact z5a.2 ⟨f,f2 f hf,e⟩
   ·obtain⟨hjk,F,rfl,hF⟩:=hJ;refine⟨.inr (0,[.sl (ao F),c1,c2]),?_,.inl [.sl (ao F),I ((j+1:Nat):Int),c1,c2],aa (av (aw (i:=j) (by omega))) rfl,by omega,F,rfl,hF.mono λi' j' k' h1 h2 h3 h4=>by omega⟩
    exact aa (z:=l.map ag) rfl (aa af (aa ae (az (by show ¬ ((l.length:Int)<((l.map ag).length:Int));rw[ll];omega) rfl)))
  ·obtain⟨hij,F,rfl,hF⟩:=hJ;refine⟨.inr (0,[.sl (ao F),c1,c2]),?_,.inl [.sl (ao F),I ((i+1:Nat):Int),c1,c2],aa (av (aw (i:=i) (by omega))) rfl,F,rfl,hF.mono λi' j' k' h1 h2 h3 h4=>by omega⟩
   exact aa (z:=l.map ag) rfl (aa af (aa ae (az (by show ¬ ((l.length:Int)<((l.map ag).length:Int));rw[ll];omega) rfl)))
 ·obtain⟨F,rfl,hF⟩:=hJ;obtain⟨y,hy,hY⟩:=hK F hF;refine⟨.inr (0,[.sl (ao F),c1,c2]),?_,y,hy,hY⟩;exact aa (z:=l.map ag) rfl (aa af (aa ae (az (by show ¬ ((l.length:Int)<((l.map ag).length:Int));rw[ll];omega) rfl)))
end Sy
end
noncomputable section
namespace Sy
open Go Go.Proofs Geo
def wZ{A:Option D}(h:∃ y,A=some y/\∃ v:Bool,y=.bool v):∃ v:Bool,A=some (.bool v):=by
 obtain⟨y,h,v,rfl⟩:=h;exact⟨v,h⟩
def GJ{b:ByteArray}{i:Nat}(h:i<b.size):∃ x:Int,D.strAt (.str b) (I (i:Int))=some (.int .u8 x):=by
 refine⟨b[i].toNat,?_⟩;simp[D.strAt,h]
def UQ(n:Nat)(b:ByteArray):∃ v:Bool,cA (n+2) 361 [.str b]=some (.bool v):=by
 refine wZ ?_;rw[WU];delta IM qB qC qT qN qZ iL iR Jn;by_cases h1:(b.size:Int)<1
 ·exact⟨_,aa (z:=I (b.size:Int)) rfl (aa af (aa (z:=true) (by rw[ae,decide_eq_true h1]) (aa (z:=true) rfl (aa (z:=true) rfl (jl rfl))))),false,rfl⟩
 ·by_cases h2:(b.size:Int)>32
  ·refine⟨.bool false,aa (z:=I (b.size:Int)) rfl (aa af (aa (z:=false) (by rw[ae,decide_eq_false h1]) (aa (z:=true) ?_ (aa (z:=true) rfl (jl rfl))))),false,rfl⟩
   rw[if_neg (by decide)]
   exact aa (z:=I (b.size:Int)) rfl (aa bP (by rw[ae,decide_eq_true h2]))
  ·refine ab (z:=I (b.size:Int)) rfl (ab af (ab (z:=false) (by rw[ae,decide_eq_false h1]) (ab (z:=false) ?_ (ab (z:=false) rfl ?_))))
   ·rw[if_neg (by decide)]
    exact aa (z:=I (b.size:Int)) rfl (aa bP (by rw[ae,decide_eq_false h2]))
   rw[if_neg (by decide)]
   refine cW (λi s=>s=[I (i:Int)]) b.size 0 (zga _) rfl (λi hi s hJ=>?_) (λs hJ=>?_)
   ·subst hJ;obtain⟨x,hx⟩:=GJ hi;obtain⟨w,hw⟩:=UW n x;refine ab (z:=I (b.size:Int)) rfl (ab af (ab ae (bA (by show(i:Int)<(b.size:Int);omega) (ab hx (ab hw (ab bg (ab ae (ab (z:=!w&&(decide ((i:Int)=0)||(!decide (x=95)&&(decide (x<48)||decide (x>57))))) ?_ (ab ae ?_)))))))))
    ·cases w
     ·by_cases h0:(i:Int)=0
      ·simp[h0,D.beq,D.truth]
      ·have h0':¬ i=0:=by omega
       by_cases hx1:x=95<;>by_cases hx2:x<48<;>by_cases hx3:x>57<;>simp[h0,h0',D.beq,D.truth,hx,hx1,hx2,hx3,D.bin]
     ·rfl
    ·generalize (!w&&(decide ((i:Int)=0)||(!decide (x=95)&&(decide (x<48)||decide (x>57)))))=c;cases c
     ·exact⟨.inl [I ((i+1:Nat):Int)],by rw[if_neg (by decide)];exact aa (au (a:=i) (b:=1) (by omega)) rfl,rfl⟩
     ·exact⟨.inr (0,[.bool false]),rfl,.bool false,rfl,false,rfl⟩
   ·subst hJ;exact⟨.inr (1,[]),aa (z:=I (b.size:Int)) rfl (aa af (aa ae (az (by show ¬ ((b.size:Int)<(b.size:Int));omega) rfl))),.bool true,rfl,true,rfl⟩
structure Bdy where
 nm:ByteArray
 P:List (List V)
 m0:Int
 m1:Int
 r0:Int
 r1:Int
def eW(b:Bdy):D:=.st [.str b.nm,.sl (b.P.map be),.st [I b.m0,I b.m1],.st [I b.r0,I b.r1]]
def bU(P:List (List V)):(P.map be).length=P.length:=zoa ..
def AJ{P:List (List V)}{i:Nat}(h:i<P.length):(P.map be)[i]?=some (be P[i]):=by simp[h]
def UJ(n:Nat)(b:Bdy)(hL:b.P.length<=9223372036854775807):∃ v:Bool,cA (n+1) 346 [eW b]=some (.bool v)/\(v=true->b.P.length<=3/\∀ l∈b.P,l.length<=10):=by
 suffices h:∃ y,cA (n+1) 346 [eW b]=some y/\∃ v:Bool,y=.bool v/\(v=true->b.P.length<=3/\∀ l∈b.P,l.length<=10) by
  obtain⟨y,h,v,rfl,k⟩:=h;exact⟨v,h,k⟩
 rw[WK];delta IC qB qC qS qY qM qP qZ iL iR Jn;refine cW (λi s=>s=[I (i:Int)]/\∀ l∈b.P.take i,l.length<=10) b.P.length 0 (zga _) ⟨rfl,by simp⟩ (λi hi s hJ=>?_) (λs hJ=>?_)
 ·obtain⟨rfl,hJ⟩:=hJ;refine ab (z:=.sl (b.P.map be)) rfl (ab (z:=b.P.map be) rfl (ab af (ab ae (bA (by show(i:Int)<((b.P.map be).length:Int);rw[bU];omega) ?_))))
  refine ab (z:=.sl (b.P.map be)) rfl (ab (z:=b.P.map be) rfl (ab (z:=i) (by rw[bU];exact ak hi) (ab (AJ hi) (ab (z:=aS b.P[i]) rfl (ab (z:=b.P[i].map ag) rfl (ab bP (ab ae ?_)))))))
  rw[aD];by_cases h:b.P[i].length<=10
  ·refine w6 (by omega) ⟨.inl [I ((i+1:Nat):Int)],aa (au (a:=i) (b:=1) (by omega)) rfl,rfl,?_⟩
   rw[zka hi];intro l hl;rcases zwa.1 hl with hl|hl
   ·exact hJ l hl
   ·rw[zAa.1 hl];exact h
  ·exact bA (by omega) ⟨.inr (0,[.bool false]),rfl,.bool false,rfl,false,rfl,λh=>by cases h⟩
 ·obtain⟨rfl,hJ⟩:=hJ;rw[zIa] at hJ;refine⟨.inr (1,[]),aa (z:=.sl (b.P.map be)) rfl (aa (z:=b.P.map be) rfl (aa af (aa ae (az (by show ¬ ((b.P.length:Int)<((b.P.map be).length:Int));rw[bU];omega) rfl)))),?_⟩
  refine⟨.bool (decide (b.P.length<=3)),?_,_,rfl,λh=>⟨by simpa using h,hJ⟩⟩
  rw[if_neg (by decide)]
  refine aa (z:=.sl (b.P.map be)) rfl (aa (z:=b.P.map be) rfl (aa sn ?_));rw[bU];congr 2;rw[decide_eq_decide];omega
def B6{v:V}{k:Int}(h:∀ t,t<3->dY v t<=k/\-k<=dY v t):bd k v:=by
 have a:=h 0 (by decide);have b:=h 1 (by decide);have c:=h 2 (by decide)
 simp only[dY,if_true,if_false,Nat.one_ne_zero,Nat.reduceEqDiff] at a b c;exact⟨⟨a.2,a.1⟩,⟨b.2,b.1⟩,⟨c.2,c.1⟩⟩
def yP{v:V}{i:Nat}(h:i<3):D.fld (ag v) i=some (I (dY v i)):=by
 have:i=0\/i=1\/i=2:=by omega
 rcases this with rfl|rfl|rfl<;>rfl
def UR(n:Nat){l:List V}(hlen:l.length<=1000):∃ v:Bool,cA (n+1) 362 [be l]=some (.bool v)/\(v=true->∀ x∈l,bd 4096 x):=by
 suffices h:∃ y,cA (n+1) 362 [be l]=some y/\∃ v:Bool,y=.bool v/\(v=true->∀ x∈l,bd 4096 x) by
  obtain⟨y,h,v,rfl,k⟩:=h;exact⟨v,h,k⟩
 rw[WW];delta IN qB qC qT qY qM qZ iL iR Jn;refine cW (λi s=>s=[I (i:Int)]/\∀ x∈l.take i,bd 4096 x) l.length 0 (zga _) ⟨rfl,by simp⟩ (λi hi s hJ=>?_) (λs hJ=>?_)
 ·obtain⟨rfl,hJ⟩:=hJ;refine ab (z:=aS l) rfl (ab (z:=l.map ag) rfl (ab af (ab ae (bA (by show(i:Int)<((l.map ag).length:Int);rw[aD];omega) ?_))))
  refine cW (λk s=>s=[I (k:Int)]/\∀ t,t<k->dY l[i] t<=4096/\-4096<=dY l[i] t) 3 0 (zga _) ⟨rfl,λt h=>by omega⟩ (λk hk s hK=>?_) (λs hK=>?_)
  ·obtain⟨rfl,hK⟩:=hK;have hg:Option.bind (D.get (be l) [0]) (λx9=>Option.bind (D.asSl x9) λl10=>Option.bind (D.idx (I (i:Int)) l10.length) λi11=>l10[i11]?)=some (ag l[i]):=
    aa (z:=aS l) rfl (aa (z:=l.map ag) rfl (aa (z:=i) (by rw[aD];exact ak hi) (nw hi)))
   refine ab af (ab ae (bA (by show(k:Int)<3;omega) ?_))
   refine ab (z:=aS l) rfl (ab (z:=l.map ag) rfl (ab (z:=i) (by rw[aD];exact ak hi) (ab (nw hi) (ab (z:=k) (ak hk) (ab (yP hk) (ab bP (ab ae ?_)))))))
   by_cases h1:dY l[i] k>4096
   ·refine ab (z:=true) (by rw[decide_eq_true h1];rfl) (ab (z:=true) rfl ⟨.inr (0,[.bool false]),rfl,.inr (0,[.bool false]),rfl,.bool false,rfl,false,rfl,λh=>by cases h⟩)
   ·refine ab (z:=decide (dY l[i] k < -4096)) ?_ (ab ae ?_)
    ·rw[decide_eq_false h1,if_neg (by decide)]
     exact aa (z:=aS l) rfl (aa (z:=l.map ag) rfl (aa (z:=i) (by rw[aD];exact ak hi) (aa (nw hi) (aa (z:=k) (ak hk) (aa (yP hk) (aa af ae))))))
    ·by_cases h2:dY l[i] k < -4096
     ·exact bA h2 ⟨.inr (0,[.bool false]),rfl,.inr (0,[.bool false]),rfl,.bool false,rfl,false,rfl,λh=>by cases h⟩
     ·refine w6 h2 ⟨.inl [I ((k+1:Nat):Int)],aa (au (a:=k) (b:=1) (by omega)) rfl,rfl,λt ht=>?_⟩
      by_cases e:t=k
      ·subst e;omega
      ·exact hK t (by omega)
  ·obtain⟨rfl,hK⟩:=hK;refine⟨.inr (1,[]),aa af (aa ae (az (by decide) rfl)),.inl [I ((i+1:Nat):Int)],?_,rfl,?_⟩
   ·rw[if_neg (by decide)]
    exact aa (au (a:=i) (b:=1) (by omega)) rfl
   ·rw[zka hi];intro x hx;rcases zwa.1 hx with hx|hx
    ·exact hJ x hx
    ·rw[zAa.1 hx];exact B6 hK
 ·obtain⟨rfl,hJ⟩:=hJ;rw[zIa] at hJ;refine⟨.inr (1,[]),aa (z:=aS l) rfl (aa (z:=l.map ag) rfl (aa af (aa ae (az (by show ¬ ((l.length:Int)<((l.map ag).length:Int));rw[aD];omega) rfl)))),.bool true,rfl,true,rfl,λ_=>hJ⟩
structure Hul(l:List V):Prop where
 len:l.length<=64
 bd:∀ x∈l,bd MV x
 srt:EV l
 vtx:∀ k,k<l.length->NC (pt l) l.length k
 ex:∃ m d,IsF (pt l) l.length m d
def Uq(n:Nat){l:List V}(h:l.length<=100):(∃ e:Int,cA (n+9) 15 [be l]=some (I e)/\e≠0)\/(cA (n+9) 15 [be l]=some (I 0)/\Hul l):=by
 rcases Zy n (l:=l) h with⟨e,h1,h2⟩|⟨h1,h2,h3,F,h4,hne,_,h5⟩
 ·exact .inl ⟨e,h1,h2⟩
 ·right;have ho:=List.Pairwise.sublist (Es (dH l) F) (uf l);rw[h5] at ho;have hs:=GH ho;rw[Kx ho] at h4 h5;refine⟨h1,h2,h3,hs,λk hk=>?_,?_⟩
  ·refine FH hs h4.fok ?_;have e:=congrArg List.length h5;unfold cX at e;rw[zoa] at e;have e2:((List.range l.length).filter (jm F)).length=(List.range l.length).length:=by rw[e,zUb]
   exact List.length_filter_eq_length_iff.1 e2 k (zLa.2 hk)
  ·obtain⟨f,hf⟩:∃ f,f∈F:=List.exists_mem_of_ne_nil F (λe=>hne (by rw[e];rfl))
   exact⟨_,_,(h4.fok.ok f hf).1⟩
def Hul.pos{l:List V}(h:Hul l):0<l.length:=by
 obtain⟨m,d,hF⟩:=h.ex;obtain⟨i,j,k,h1,h2,h3,_⟩:=hF.ex;omega
def LC{m v:V}(hm:bd 549755813888 m)(hv:bd 4096 v):In (V.dot m v):=by
 have h1:(m.x*v.x).natAbs<=549755813888*4096:=by rw[zFa];exact zVa (by have:=hm.1;omega) (by have:=hv.1;omega)
 have h2:(m.y*v.y).natAbs<=549755813888*4096:=by rw[zFa];exact zVa (by have:=hm.2.1;omega) (by have:=hv.2.1;omega)
 have h3:(m.z*v.z).natAbs<=549755813888*4096:=by rw[zFa];exact zVa (by have:=hm.2.2;omega) (by have:=hv.2.2;omega)
 refine ce ?_;simp only[V.dot,inR];omega
def N8(n:Nat){l:List V}{m:V}(hm:bd 549755813888 m)(hl:∀ x∈l,bd 4096 x)(h0:0<l.length)(hlen:l.length<=1000):∃ a b:Int,cA (n+7) 389 [be l,ag m]=some (.st [aj a,aj b])/\In a/\In b:=by
 suffices h:∃ y,cA (n+7) 389 [be l,ag m]=some y/\∃ a b:Int,y=.st [aj a,aj b]/\In a/\In b by
  obtain⟨y,h,a,b,rfl,k⟩:=h;exact⟨a,b,h,k⟩
 rw[Xe];delta I5 qG qB qC qY qM qZ iL iR Jn;have hd:∀ i (h:i<l.length),cA (n+6) 33 [ag m,ag l[i]]=some (aj (V.dot m l[i]))/\In (V.dot m l[i]):=λi h=>
  have hb:=hl _ (zla h)
  ⟨Xz n hm hb (by decide) (by decide) (by decide),LC hm hb⟩
 refine ab (z:=aS l) rfl (ab (z:=l.map ag) rfl (ab (z:=0) (by rw[aD];exact ak h0) (ab (nw h0) (ab (hd 0 h0).1 ?_))))
 refine cW (λi s=>∃ a b:Int,s=[I (i:Int),.st [aj a,aj b]]/\In a/\In b) l.length 1 h0 ⟨_,_,rfl,(hd 0 h0).2,(hd 0 h0).2⟩ (λi hi s hJ=>?_) (λs hJ=>?_)
 ·obtain⟨a,b,rfl,ha,hb⟩:=hJ;obtain⟨d1,d2⟩:=hd i hi;refine ab (z:=aS l) rfl (ab (z:=l.map ag) rfl (ab af (ab ae (bA (by show(i:Int)<((l.map ag).length:Int);rw[aD];omega) ?_))))
  generalize hD:V.dot m l[i]=d at *;have key:∃ a' b':Int,In a'/\In b'/\(Option.bind (D.get (be l) [0]) λx11=>Option.bind (D.asSl x11) λl12=>Option.bind (D.idx (List.getD [I (i:Int),.st [aj a,aj b]] 0 (.bool false)) l12.length) λi13=>Option.bind (l12[i13]?) λx14=>Option.bind (cA (n+6) 33 [ag m,x14]) λr15=>
    Option.bind (Option.bind (D.get (List.getD [I (i:Int),.st [aj a,aj b]] 1 (.bool false)) [0]) λx16=>Option.bind (cA (n+6) 32 [r15,x16]) λr17=>Option.bind (D.bin .lss r17 (D.int .i64 0)) λx18=>Option.bind (D.truth x18) λb19=>
     if b19 then(Option.bind (D.set (List.getD [I (i:Int),.st [aj a,aj b]] 1 (.bool false)) [0] r15) λx20=>some ((0:Nat),[x20])) else some (0,[List.getD [I (i:Int),.st [aj a,aj b]] 1 (.bool false)])) λ(r21:Nat×List D)=>
    Option.bind (D.get (gx r21.2 0) [1]) λx22=>Option.bind (cA (n+6) 32 [r15,x22]) λr23=>Option.bind (D.bin .gtr r23 (D.int .i64 0)) λx24=>Option.bind (D.truth x24) λb25=>
     if b25 then(Option.bind (D.set (gx r21.2 0) [1] r15) λx26=>some ((0:Nat),[x26])) else some (0,[gx r21.2 0]))=some (0,[.st [aj a',aj b']]):=by
   refine⟨if bQ d a<0 then d else a,if bQ d b>0 then d else b,by split<;>assumption,by split<;>assumption,?_⟩
   refine aa (z:=aS l) rfl (aa (z:=l.map ag) rfl (aa (z:=i) (by rw[aD];exact ak hi) (aa (nw hi) (aa d1 ?_))))
   refine aa (z:=(0,[.st [aj (if bQ d a<0 then d else a),aj b]])) ?_ ?_
   ·refine aa (z:=aj a) rfl (aa (Nf (n+3) d2 ha) (aa af (aa ae ?_)));by_cases h:bQ d a<0
    ·refine aC h ?_;rw[if_pos h];rfl
    ·refine az h ?_;rw[if_neg h];rfl
   ·refine aa (z:=aj b) rfl (aa (Nf (n+3) d2 hb) (aa bP (aa ae ?_)));by_cases h:bQ d b>0
    ·refine aC h ?_;rw[if_pos h];rfl
    ·refine az h ?_;rw[if_neg h];rfl
  obtain⟨a',b',ha',hb',hk⟩:=key;exact⟨.inl [I ((i+1:Nat):Int),.st [aj a',aj b']],aa hk (aa (au (a:=i) (b:=1) (by omega)) rfl),a',b',rfl,ha',hb'⟩
 ·obtain⟨a,b,rfl,ha,hb⟩:=hJ;exact⟨.inr (0,[.st [aj a,aj b]]),aa (z:=aS l) rfl (aa (z:=l.map ag) rfl (aa af (aa ae (az (by show ¬ ((l.length:Int)<((l.map ag).length:Int));rw[aD];omega) rfl)))),_,rfl,a,b,rfl,ha,hb⟩
def UX(n:Nat){a b:List V}{m:V}(hm:bd 549755813888 m)(ha:∀ x∈a,bd 4096 x)(hb:∀ x∈b,bd 4096 x)(ha0:0<a.length)(hb0:0<b.length)(hal:a.length<=1000)(hbl:b.length<=1000):∃ v:Bool,cA (n+8) 376 [be a,be b,ag m]=some (.bool v):=by
 refine wZ ?_;rw[W6];delta IX qG qB qC qT Jn;obtain⟨a1,b1,h1,i1,j1⟩:=N8 n hm ha ha0 hal;obtain⟨a2,b2,h2,i2,j2⟩:=N8 n hm hb hb0 hbl;rw[kp,im];refine ab ae ?_;by_cases hz:m=⟨0,0,0⟩
 ·exact bA hz ⟨_,rfl,false,rfl⟩
 ·refine w6 hz (ab h1 (ab h2 (ab (z:=aj b1) rfl (ab (z:=aj a2) rfl (ab (Nf (n+4) j1 i2) (ab sn (ab ae ?_)))))));by_cases h:bQ b1 a2<=0
  ·exact ab (z:=true) (by rw[decide_eq_true h];rfl) ⟨_,rfl,true,rfl⟩
  ·refine ab (z:=decide (bQ b2 a1<=0)) ?_ ⟨_,rfl,_,rfl⟩;rw[decide_eq_false h,if_neg (by decide)]
   exact aa (z:=aj b2) rfl (aa (z:=aj a1) rfl (aa (Nf (n+4) j2 i1) (aa sn ae)))
end Sy
end
noncomputable section
namespace Sy
open Go Go.Proofs Geo
def P0(p:List Nat)(a b i:Nat):Bool:=(decide (p.getD i 0=a)&&decide (p.getD ((i+1)%p.length) 0=b))||(decide (p.getD i 0=b)&&decide (p.getD ((i+1)%p.length) 0=a))
def Hf(p:List Nat)(a b t:Nat):Bool:=(List.range t).any (P0 p a b)
def mO(F:FL)(a b:Nat):Bool:=F.any λf=>Hf f.2 a b f.2.length
def lP(F:FL)(a b:Nat):List (Nat×Nat):=((List.range b).filter λc=>decide (a<c)&&mO F a c).map λc=>(a,c)
def nT(F:FL)(N a:Nat):List (Nat×Nat):=(List.range a).flatMap λa=>lP F a N
def FJ(p:List Nat)(a b t:Nat):Hf p a b (t+1)=(Hf p a b t||P0 p a b t):=by
 unfold Hf;rw[zxb,zIc];simp
def Ec(F:FL){a b:Nat}(h:a<b):lP F a (b+1)=if mO F a b then lP F a b++[(a,b)] else lP F a b:=by
 unfold lP;rw[zxb,List.filter_append];by_cases k:mO F a b=true<;>simp[h,k]
def GB(F:FL)(a:Nat):lP F a (a+1)=[]:=by
 unfold lP;rw[List.map_eq_nil_iff,List.filter_eq_nil_iff];intro c hc;have:=zLa.1 hc;simp;omega
def zO(F:FL)(a b:Nat):(lP F a b).length<=b:=by
 unfold lP;rw[zoa];exact zCa (zlc _ _) (by simp)
def uU(F:FL)(N a:Nat):nT F N (a+1)=nT F N a++lP F a N:=by
 unfold nT;rw[zxb,List.flatMap_append];simp
def yi(F:FL)(N a:Nat):(nT F N a).length<=a*N:=by
 induction a with
 | zero=>simp[nT]
 | succ a ih=>rw[uU,zua,Nat.succ_mul];have:=zO F a N;omega
def FU{F:FL}{N:Nat}{e:Nat×Nat}:e∈nT F N N↔e.1<N/\e.2<N/\e.1<e.2/\mO F e.1 e.2=true:=by
 obtain⟨a,b⟩:=e;simp only[nT,lP,zWb,zLa,z5a,zqc,zaa,decide_eq_true_eq,Prod.mk.injEq];constructor
 ·rintro⟨c,hc,d,⟨hd,h1,h2⟩,rfl,rfl⟩;exact⟨hc,hd,h1,h2⟩
 ·rintro⟨h1,h2,h3,h4⟩;exact⟨a,h1,b,⟨h2,h3,h4⟩,rfl,rfl⟩
def Ua{M:List (Nat×Nat)}(e:Nat×Nat):D.sl (M.map fX++[fX e])=.sl ((M++[e]).map fX):=by simp
def FR(M:List (Nat×Nat)):(M.map fX).length=M.length:=zoa ..
def Zz(n:Nat){l:List V}(hlen:l.length<=100){F:FL}(hF:F.length<=3000000)(hp:∀ f∈F,0<f.2.length/\f.2.length<=1000000)(h19:cA (n+1) 19 [be l]=some (.sl (ao F))):cA (n+2) 22 [be l]=some (.sl ((nT F l.length l.length).map fX)):=by
 rw[ZS]
 delta O8 qB qT qS qX qL qM qV qW qZ iL iR Jn
 refine aa h19 ?_;refine ba (λa s=>s=[.sl ((nT F l.length a).map fX),I (a:Int)]) l.length 0 (zga _) rfl (λa ha s hJ=>?_) (λs hJ=>?_)
 ·subst hJ;left;refine⟨[.sl ((nT F l.length (a+1)).map fX),I ((a+1:Nat):Int)],?_,rfl⟩;have hal:(nT F l.length a).length<=10000:=zCa (yi F l.length a) (zVa (show a<=100 by omega) hlen)
  refine aa (z:=aS l) rfl (aa (z:=l.map ag) rfl (aa af (aa ae (aC (by show((a:Int)<((l.map ag).length:Int));rw[aD];omega) (aa (av (aw (i:=a) (by omega))) ?_)))))
  rw[uU];obtain⟨M,hM⟩:∃ M,nT F l.length a=M:=⟨_,rfl⟩;rw[hM] at hal ⊢;refine bT (λb s=>a+1<=b/\s=[.sl ((M++lP F a b).map fX),I (b:Int)]) l.length (a+1) (by omega) ⟨zja _,by rw[GB,z4b];rfl⟩ (λb hb s hJ=>?_) (λs hJ=>?_)
  ·obtain⟨hab,rfl⟩:=hJ;left;refine⟨[.sl ((M++lP F a (b+1)).map fX),I ((b+1:Nat):Int)],?_,by omega,rfl⟩
   have hrl:=zO F a b;rw[Ec F (show a<b by omega)]
   obtain⟨R,hR⟩:∃ R,M++lP F a b=R:=⟨_,rfl⟩;have hRl:R.length<=10100:=by rw[<-hR,zua];omega
   have eR:(M++if mO F a b=true then lP F a b++[(a,b)] else lP F a b)=if mO F a b=true then R++[(a,b)] else R:=by
    split
    ·rw[<-hR,zOa]
    ·exact hR
   rw[eR,hR];refine aa (z:=aS l) rfl (aa (z:=l.map ag) rfl (aa af (aa ae (aC (by show((b:Int)<((l.map ag).length:Int));rw[aD];omega) ?_))))
   refine aa (z:=(0,[.sl ((if mO F a b=true then R++[(a,b)] else R).map fX)])) ?_ (aa (av (aw (i:=b) (by omega))) rfl)
   refine bT (λk s=>s=[.sl (R.map fX),.bool (mO (F.take k) a b),I (k:Int)]) F.length 0 (zga _) rfl (λk hk s hJ=>?_) (λs hJ=>?_)
   ·subst hJ;left;refine⟨[.sl (R.map fX),.bool (mO (F.take (k+1)) a b),I ((k+1:Nat):Int)],?_,rfl⟩;obtain⟨hp0,hpk⟩:=hp F[k] (zla hk);have e1:mO (F.take (k+1)) a b=(mO (F.take k) a b||Hf F[k].2 a b F[k].2.length):=by
     unfold mO;rw[zka hk,zIc];simp
    refine aa (z:=ao F) rfl (aa af (aa ae (aC (by show((k:Int)<((ao F).length:Int));rw[aA];omega) ?_)))
    refine aa (z:=ao F) rfl (aa (z:=k) (by rw[aA];exact ak hk) (aa (cJ hk) (aa (z:=.sl (ah F[k].2)) rfl ?_)))
    rw[e1];generalize mO (F.take k) a b=b0;obtain⟨p,hpp⟩:∃ p,F[k].2=p:=⟨_,rfl⟩;rw[hpp] at hp0 hpk ⊢;refine bT (λi s=>s=[.sl (R.map fX),.bool (b0||Hf p a b i),I (i:Int)]) p.length 0 (zga _) (by rw[show Hf p a b 0=false from rfl,Bool.or_false];rfl) (λi hi s hJ=>?_) (λs hJ=>?_)
    ·subst hJ;left;refine⟨[.sl (R.map fX),.bool (b0||Hf p a b (i+1)),I ((i+1:Nat):Int)],?_,rfl⟩;have hmod:(i+1)%p.length<p.length:=zUa _ hp0;have hrem:(((i:Int)+1).tmod (p.length:Int))=(((i+1)%p.length:Nat):Int):=by
      rw[show((i:Int)+1)=((i+1:Nat):Int) by omega];exact zld ..
     have nb:∀ (x y:Nat) {X:Option Bool},X=(Option.bind (D.asSl (.sl (ah p))) λl26=>
       Option.bind (D.idx (I (i:Int)) (List.length l26)) λi27=>
       Option.bind (l26[i27]?) λx28=>
       Option.bind (D.truth (D.bool (D.beq x28 (I (x:Int))))) λb29=>
       if b29 then(Option.bind (D.bin .add (I (i:Int)) (D.int .i64 1)) λx30=>
       Option.bind (D.asSl (.sl (ah p))) λl31=>
       Option.bind (D.bin .rem x30 (D.int .i64 (List.length l31))) λx32=>
       Option.bind (D.asSl (.sl (ah p))) λl33=>
       Option.bind (D.idx x32 (List.length l33)) λi34=>
       Option.bind (l33[i34]?) λx35=>
       D.truth (D.bool (D.beq x35 (I (y:Int))))) else(some false))->X=some (decide (p.getD i 0=x)&&decide (p.getD ((i+1)%p.length) 0=y)):=λx y X hX=>by
      rw[hX];refine aa (z:=ah p) rfl (aa (z:=i) (by rw[am];exact ak hi) (aa (iu hi) ?_))
      rw[bN];refine aa ae ?_;by_cases h:p.getD i 0=x
      ·refine aC h (aa (av (aw (i:=i) (by omega))) (aa (z:=ah p) rfl (aa (z:=I (((i+1)%p.length:Nat):Int)) (by rw[show((ah p).length:Int)=(p.length:Int) by rw[am],so (by omega),hrem]) (aa (z:=ah p) rfl (aa (z:=(i+1)%p.length) (by rw[am];exact ak hmod) (aa (iu hmod) ?_))))))
       rw[bN,ae,decide_eq_true h,zIb]
      ·refine az h ?_;rw[decide_eq_false h,zmd]
     refine aa (z:=ah p) rfl (aa af (aa ae (aC (by show((i:Int)<((ah p).length:Int));rw[am];omega) (aa ae ?_))))
     rw[FJ];generalize Hf p a b i=b1;refine aa (z:=(b0||b1)||(decide (p.getD i 0=a)&&decide (p.getD ((i+1)%p.length) 0=b))) ?_ (aa ae (aa (z:=b0||(b1||P0 p a b i)) ?_ (aa (av (aw (i:=i) (by omega))) rfl)))
     ·cases hb:(b0||b1)
      ·rw[show(if false=true then some true else _)=_ from if_neg (by decide),zxd]
       exact nb a b rfl
      ·rfl
     ·rw[<-Bool.or_assoc];unfold P0;rw[<-Bool.or_assoc];cases hb:(b0||b1||(decide (p.getD i 0=a)&&decide (p.getD ((i+1)%p.length) 0=b)))
      ·rw[show(if false=true then some true else _)=_ from if_neg (by decide),zxd]
       exact nb b a rfl
      ·rfl
    ·subst hJ;refine⟨(0,[.sl (R.map fX),.bool (b0||Hf p a b p.length)]),aa (z:=ah p) rfl (aa af (aa ae (az (by show ¬ ((p.length:Int)<((ah p).length:Int));rw[am];omega) rfl))),?_⟩
     exact aa (av (aw (i:=k) (by omega))) rfl
   ·subst hJ;rw[zIa];refine⟨(0,[.sl (R.map fX),.bool (mO F a b)]),?_,?_⟩
    ·exact aa (z:=ao F) rfl (aa af (aa ae (az (by show ¬ ((F.length:Int)<((ao F).length:Int));rw[aA];omega) rfl)))
    ·refine aa (z:=mO F a b) ae ?_;cases mO F a b
     ·rfl
     ·rw[if_pos rfl,if_pos rfl,if_pos (by show(R.map fX).length+1<=1073741824;rw[FR];omega),<-Ua]
      rfl
  ·obtain⟨hab,rfl⟩:=hJ;refine⟨(0,[.sl ((M++lP F a l.length).map fX)]),?_,aa (av (aw (i:=a) (by omega))) rfl⟩
   exact aa (z:=aS l) rfl (aa (z:=l.map ag) rfl (aa af (aa ae (az (by show ¬ ((l.length:Int)<((l.map ag).length:Int));rw[aD];omega) rfl))))
 ·subst hJ;refine⟨(0,[.sl ((nT F l.length l.length).map fX)]),?_,rfl⟩;exact aa (z:=aS l) rfl (aa (z:=l.map ag) rfl (aa af (aa ae (az (by show ¬ ((l.length:Int)<((l.map ag).length:Int));rw[aD];omega) rfl))))
end Sy
end
noncomputable section
namespace Sy
open Go Go.Proofs Geo
def Jp{a b:Int}(h:a<=b){v:V}(hv:bd a v):bd b v:=by
 unfold bd at *;omega
def Fv{β:Type}{p:Prop}[Decidable p]{A B:Option β}{Y:β->Prop}(h:p)(hA:∃ y,A=some y/\Y y):∃ y,(if p then A else B)=some y/\Y y:=by rw[if_pos h];exact hA
def oh{β:Type}{A B:Option β}{Y:β->Prop}(h:∃ y,B=some y/\Y y):∃ y,(if((1,[]):Nat×List D).1=0 then A else B)=some y/\Y y:=by rw[if_neg (by decide)];exact h
def N6(n:Nat){l:List V}(h:Hul l)(hb:∀ x∈l,bd 4096 x):∃ E:List V,cA (n+10) 377 [be l]=some (.sl (E.map ag))/\E.length<=4096/\∀ x∈E,bd 8192 x:=by
 suffices h:∃ y,cA (n+10) 377 [be l]=some y/\∃ E:List V,y=.sl (E.map ag)/\E.length<=4096/\∀ x∈E,bd 8192 x by
  obtain⟨y,h,E,rfl,k⟩:=h;exact⟨E,h,k⟩
 rw[W7];delta IY qG qB qX qL qV qW qZ iL iR Jn;obtain⟨L,poly,hL,hP,hF,_,h19⟩:=XH h.bd h.len h.srt;have hlen:=h.len;have hp:∀ f∈(L.map λq=>(q,poly q)),0<f.2.length/\f.2.length<=1000000:=λf hf=>by
  obtain⟨h1,h2,_⟩:=hF.2 f hf;omega
 have h22:=Zz (n+7) (by omega) (F:=L.map λq=>(q,poly q)) (by have:=hF.1;omega) hp (h19 n)
 obtain⟨A,hA⟩:∃ A,nT (L.map λq=>(q,poly q)) l.length l.length=A:=⟨_,rfl⟩;have hAl:A.length<=4096:=by
  rw[<-hA];refine zCa (yi _ _ _) ?_;exact zVa hlen hlen
 have hAm:∀ e∈A,e.1<l.length/\e.2<l.length:=λe he=>by
  rw[<-hA] at he;obtain⟨h1,h2,_⟩:=FU.1 he;exact⟨h1,h2⟩
 rw[hA] at h22;have aE:(A.map fX).length=A.length:=zoa ..;have app:∀ (E:List V) (x:V),E.map ag++[ag x]=(E++[x]).map ag:=λE x=>by simp
 refine ab h22 ?_;refine cW (λi s=>∃ E:List V,s=[.sl (E.map ag),I (i:Int)]/\E.length=i/\∀ x∈E,bd 8192 x) A.length 0 (zga _) ⟨[],rfl,rfl,by simp⟩ (λi hi s hJ=>?_) (λs hJ=>?_)
 ·obtain⟨E,rfl,hE,hEb⟩:=hJ;obtain⟨m1,m2⟩:=hAm _ (zla hi);have gE:(A.map fX)[i]?=some (fX A[i]):=by simp[hi]
  have b1:=hb _ (zla m1);have b2:=hb _ (zla m2);refine ab (z:=A.map fX) rfl (ab af (ab ae (bA (by show(i:Int)<((A.map fX).length:Int);rw[aE];omega) ?_)))
  refine ab (z:=aS l) rfl (ab (z:=A.map fX) rfl (ab (z:=i) (by rw[aE];exact ak hi) (ab gE (ab (z:=I (A[i].2:Int)) rfl (ab (z:=l.map ag) rfl (ab (z:=A[i].2) (by rw[aD];exact ak m2) (ab (nw m2) ?_)))))))
  refine ab (z:=aS l) rfl (ab (z:=A.map fX) rfl (ab (z:=i) (by rw[aE];exact ak hi) (ab gE (ab (z:=I (A[i].1:Int)) rfl (ab (z:=l.map ag) rfl (ab (z:=A[i].1) (by rw[aD];exact ak m1) (ab (nw m1) ?_)))))))
  refine ab (wI (n+8) b2 b1 (by decide)) ?_
  refine Fv (by show(E.map ag).length+1<=1073741824;rw[zoa];omega) ⟨.inl [.sl ((E++[V.sub l[A[i].2] l[A[i].1]]).map ag),I ((i+1:Nat):Int)],?_,E++[V.sub l[A[i].2] l[A[i].1]],rfl,by simp[hE],λx hx=>?_⟩
  ·rw[<-app];exact aa (au (a:=i) (b:=1) (by omega)) rfl
  ·rcases zwa.1 hx with hx|hx
   ·exact hEb x hx
   ·rw[zAa.1 hx];generalize l[A[i].2]=p at *;generalize l[A[i].1]=q at *;unfold bd at *;simp only[V.sub];omega
 ·obtain⟨E,rfl,hE,hEb⟩:=hJ;exact⟨.inr (0,[.sl (E.map ag)]),aa (z:=A.map fX) rfl (aa af (aa ae (az (by show ¬ ((A.length:Int)<((A.map fX).length:Int));rw[aE];omega) rfl))),_,rfl,E,rfl,by omega,hEb⟩
def fr{a b:Int}(ha:a.natAbs<=8192)(hb:b.natAbs<=8192):(a*b).natAbs<=67108864:=by
 rw[zFa];exact zVa ha hb
def L6(n:Nat){a b c d:Int}(ha:a.natAbs<=8192)(hb:b.natAbs<=8192)(hc:c.natAbs<=8192)(hd:d.natAbs<=8192):cA (n+6) 395 [aj a,aj b,aj c,aj d]=some (aj (a*b-c*d)):=by
 have m1:=fr ha hb;have m2:=fr hc hd;have i2:In (c*d):=ce (by simp only[inR];omega)
 rw[Xi];unfold I9;refine aa (Ng (n+1) (by unfold Wd;omega) (by unfold Wd;omega)) (aa (Ng (n+1) (by unfold Wd;omega) (by unfold Wd;omega)) (aa (z:=aj (a*b-c*d)) ?_ rfl))
 rw[Xj];unfold Ja;refine aa (U8 (n+1) i2) (aa (PT n (x:=a*b) (y:=-(c*d)) (by unfold Wd;omega) (by unfold Wd;omega)) ?_)
 rw[Int.sub_eq_add_neg]
def pq{k:Nat}{v:V}(h:bd (k:Int) v):v.x.natAbs<=k/\v.y.natAbs<=k/\v.z.natAbs<=k:=by
 unfold bd at h;omega
def UZ(n:Nat){u v:V}(hu:bd 8192 u)(hv:bd 8192 v):cA (n+8) 379 [ag u,ag v]=some (kV (V.cross u v)):=by
 obtain⟨u1,u2,u3⟩:=pq (k:=8192) hu;obtain⟨v1,v2,v3⟩:=pq (k:=8192) hv;rw[W9];unfold I0;refine aa (Oc (n+3) (by simp only[inR];omega) (by simp only[inR];omega) (by simp only[inR];omega)) (aa (Oc (n+3) (by simp only[inR];omega) (by simp only[inR];omega) (by simp only[inR];omega)) (aa (z:=kV (V.cross u v)) ?_ rfl))
 rw[Xf];delta I6 qG;refine aa (z:=aj u.y) rfl (aa (z:=aj v.z) rfl (aa (z:=aj u.z) rfl (aa (z:=aj v.y) rfl (aa (L6 n u2 v3 u3 v2) ?_))));refine aa (z:=aj u.z) rfl (aa (z:=aj v.x) rfl (aa (z:=aj u.x) rfl (aa (z:=aj v.z) rfl (aa (L6 n u3 v1 u1 v3) ?_))));refine aa (z:=aj u.x) rfl (aa (z:=aj v.y) rfl (aa (z:=aj u.y) rfl (aa (z:=aj v.x) rfl (aa (L6 n u1 v2 u2 v1) ?_))));rfl
def yy{u v:V}(hu:bd 8192 u)(hv:bd 8192 v):bd 134217728 (V.cross u v):=by
 obtain⟨u1,u2,u3⟩:=pq (k:=8192) hu;obtain⟨v1,v2,v3⟩:=pq (k:=8192) hv;have a1:=fr u2 v3;have a2:=fr u3 v2;have a3:=fr u3 v1;have a4:=fr u1 v3;have a5:=fr u1 v2;have a6:=fr u2 v1;unfold bd;simp only[V.cross];omega
def UY(n:Nat){w:V}(hw:bd 134217728 w):cA (n+5) 378 [kV w]=some (ag w):=by
 unfold bd at hw;rw[W8];delta IZ qG;refine aa (z:=aj w.x) rfl (aa (Dk n (by unfold Wd;omega)) (aa (z:=I w.x) rfl (aa (z:=.bool true) rfl ?_)))
 refine aa (z:=aj w.y) rfl (aa (Dk n (by unfold Wd;omega)) (aa (z:=I w.y) rfl (aa (z:=.bool true) rfl ?_)))
 exact aa (z:=aj w.z) rfl (aa (Dk n (by unfold Wd;omega)) (aa (z:=I w.z) rfl (aa (z:=.bool true) rfl rfl)))
def US(n:Nat){a b:List V}(ha:Hul a)(hb:Hul b)(ka:∀ x∈a,bd 4096 x)(kb:∀ x∈b,bd 4096 x):∃ v:Bool,cA (n+11) 363 [be a,be b]=some (.bool v):=by
 refine wZ ?_;have hal:=ha.len;have hbl:=hb.len;have ha0:=ha.pos;have hb0:=hb.pos;rw[WX];delta IP qG qB qC qT qX qL qV qW qZ iL iR Jn;refine ab (z:=aS a) rfl ?_;refine Cg (n+4) ha.bd (by omega) ha.srt (be a) (be b) (λF hF=>?_)
 refine ab (z:=aS b) rfl ?_;refine Cg (n+4) hb.bd (by omega) hb.srt (be a) (be b) (λG hG=>?_)
 have lF:=hF.fok.len (by omega);have lG:=hG.fok.len (by omega)
 have hN:∀ f∈F++G,bd 549755813888 f.1.1:=λf hf=>by
  rcases zwa.1 hf with hf|hf
  ·exact AP ha.bd (hF.fok.ok f hf).1
  ·exact AP hb.bd (hG.fok.ok f hf).1
 have sep:∀ m,bd 549755813888 m->∃ v:Bool,cA (n+10) 376 [be a,be b,ag m]=some (.bool v):=λm hm=>UX (n+2) hm ka kb ha0 hb0 (by omega) (by omega)
 refine Fv (by show(ao F).length+(ao G).length<=1073741824;rw[aA,aA];omega) ?_
 refine cW (λi s=>s=[.sl (ao (F++G)),I (i:Int)]) (F++G).length 0 (zga _) (by simp[ao,D.els]) (λi hi s hJ=>?_) (λs hJ=>?_)
 ·subst hJ;obtain⟨v,hv⟩:=sep _ (hN _ (zla hi));refine ab af (ab ae (bA (by show(i:Int)<((ao (F++G)).length:Int);rw[aA];omega) ?_))
  refine ab (z:=i) (by show D.idx (I (i:Int)) (ao (F++G)).length=_;rw[aA];exact ak hi) (ab (cJ hi) (ab (z:=ag (F++G)[i].1.1) rfl (ab hv (ab ae ?_))))
  cases v
  ·rw[zua] at hi;exact⟨.inl [.sl (ao (F++G)),I ((i+1:Nat):Int)],by rw[if_neg (by decide)];exact aa (au (a:=i) (b:=1) (by omega)) rfl,rfl⟩
  ·exact⟨.inr (0,[.bool true]),rfl,.bool true,rfl,true,rfl⟩
 ·subst hJ;obtain⟨E1,e1,l1,b1⟩:=N6 n ha ka;obtain⟨E2,e2,l2,b2⟩:=N6 n hb kb;refine⟨.inr (1,[]),aa af (aa ae (az (by show ¬ (((F++G).length:Int)<((ao (F++G)).length:Int));rw[aA];omega) rfl)),?_⟩
  refine oh ?_;refine ab e1 (ab e2 ?_);refine cW (λi s=>s=[I (i:Int)]) E1.length 0 (zga _) rfl (λi hi s hJ=>?_) (λs hJ=>?_)
  ·subst hJ;refine ab (z:=E1.map ag) rfl (ab af (ab ae (bA (by show(i:Int)<((E1.map ag).length:Int);rw[aD];omega) ?_)))
   refine cW (λk s=>s=[I (k:Int)]) E2.length 0 (zga _) rfl (λk hk s hK=>?_) (λs hK=>?_)
   ·subst hK;have u1:=b1 _ (zla hi);have u2:=b2 _ (zla hk);obtain⟨v,hv⟩:=sep _ (Jp (by decide) (yy u1 u2))
    refine ab (z:=E2.map ag) rfl (ab af (ab ae (bA (by show(k:Int)<((E2.map ag).length:Int);rw[aD];omega) ?_)))
    refine ab (z:=E1.map ag) rfl (ab (z:=i) (by rw[aD];exact ak hi) (ab (nw hi) (ab (z:=E2.map ag) rfl (ab (z:=k) (by rw[aD];exact ak hk) (ab (nw hk) ?_)))))
    refine ab (UZ (n+2) u1 u2) (ab (UY (n+5) (yy u1 u2)) (ab hv (ab ae ?_)));cases v
    ·exact⟨.inl [I ((k+1:Nat):Int)],by rw[if_neg (by decide)];exact aa (au (a:=k) (b:=1) (by omega)) rfl,rfl⟩
    ·exact⟨.inr (0,[.bool true]),rfl,.inr (0,[.bool true]),rfl,.bool true,rfl,true,rfl⟩
   ·subst hK;refine⟨.inr (1,[]),aa (z:=E2.map ag) rfl (aa af (aa ae (az (by show ¬ ((E2.length:Int)<((E2.map ag).length:Int));rw[aD];omega) rfl))),.inl [I ((i+1:Nat):Int)],?_,rfl⟩
    rw[if_neg (by decide)]
    exact aa (au (a:=i) (b:=1) (by omega)) rfl
  ·subst hJ;exact⟨.inr (1,[]),aa (z:=E1.map ag) rfl (aa af (aa ae (az (by show ¬ ((E1.length:Int)<((E1.map ag).length:Int));rw[aD];omega) rfl))),.bool false,rfl,false,rfl⟩
def gv{b c:Bool}{X:Option Bool}(h:X=some c):(if b=true then some true else X)=some (b||c):=by cases b<;>simp[h]
structure BOk(b:Bdy):Prop where
 one:1<=b.P.length
 few:b.P.length<=3
 vs:∀ l∈b.P,l.length<=10
 hul:∀ l∈b.P,Hul l
 bd:∀ l∈b.P,∀ x∈l,bd 4096 x
 m0:1<=b.m0
 m1:b.m0<=b.m1
 m2:b.m1<=1099511627776
def UK(n:Nat)(b:Bdy)(hf:b.P.length<=3)(hv:∀ l∈b.P,l.length<=10):∃ e:Int,cA (n+12) 347 [eW b]=some (I e)/\(e=0->BOk b):=by
 suffices h:∃ y,cA (n+12) 347 [eW b]=some y/\∃ e:Int,y=I e/\(e=0->BOk b) by
  obtain⟨y,h,e,rfl,k⟩:=h;exact⟨e,h,k⟩
 rw[WL];delta ID qG qB qC qT qN qY qM qP qZ iL iR Jn;obtain⟨w,hw⟩:∃ w:Bool,cA (n+11) 361 [.str b.nm]=some (.bool w):=UQ (n+9) b.nm;have gP:D.get (eW b) [1]=some (.sl (b.P.map be)):=rfl;refine ab (z:=.str b.nm) rfl ?_;refine ab (z:=.bool w) hw ?_;refine ab bg (ab ae ?_);cases w
 ·exact⟨I 5,rfl,5,rfl,λh=>by cases h⟩
 rw[if_neg (by decide)]
 refine ab gP (ab (z:=b.P.map be) rfl (ab af (ab ae (ab (gv (aa gP (aa (z:=b.P.map be) rfl (aa bP ae)))) (ab ae ?_)))));rw[bU];cases hq:(decide ((b.P.length:Int)<1)||decide ((b.P.length:Int)>8)) with
 | true=>exact⟨I 2,rfl,2,rfl,λh=>by cases h⟩
 | false=>
 rw[if_neg (by decide)]
 refine ab (z:=I b.m0) rfl (ab af (ab ae (ab (gv (aa (z:=I b.m1) rfl (aa (z:=I b.m0) rfl (aa af ae)))) (ab ae (ab (gv (aa (z:=I b.m1) rfl (aa bP ae))) (ab ae (ab (gv (aa (z:=I b.r0) rfl (aa af ae))) (ab ae (ab (gv (aa (z:=I b.r1) rfl (aa (z:=I b.r0) rfl (aa af ae)))) (ab ae (ab (gv (aa (z:=I b.r1) rfl (aa bP ae))) (ab ae ?_))))))))))));cases hm:(decide (b.m0<1)||decide (b.m1<b.m0)||decide (b.m1>1099511627776)||decide (b.r0<0)||decide (b.r1<b.r0)||decide (b.r1>4000)) with
 | true=>exact⟨I 1,rfl,1,rfl,λh=>by cases h⟩
 | false=>
 rw[if_neg (by decide)]
 simp only[zNb,decide_eq_false_iff_not] at hq hm;refine cW (λi s=>s=[I (i:Int)]/\∀ l∈b.P.take i,Hul l/\∀ x∈l,bd 4096 x) b.P.length 0 (zga _) ⟨rfl,by simp⟩ (λi hi s hJ=>?_) (λs hJ=>?_)
 ·obtain⟨rfl,hJ⟩:=hJ;have hl:=hv _ (zla hi);refine ab gP (ab (z:=b.P.map be) rfl (ab af (ab ae (bA (by show(i:Int)<((b.P.map be).length:Int);rw[bU];omega) ?_))))
  refine ab gP (ab (z:=b.P.map be) rfl (ab (z:=i) (by rw[bU];exact ak hi) (ab (AJ hi) ?_)))
  rcases Uq (n+2) (l:=b.P[i]) (by omega) with⟨e,h1,h2⟩|⟨h1,h2⟩
  ·refine ab h1 (ab (z:=true) ?_ ⟨.inr (0,[I e]),rfl,I e,rfl,e,rfl,λh=>absurd h h2⟩);rw[show D.beq (I e) (D.int .i64 0)=decide (e=0) from bF,decide_eq_false h2];rfl
  ·obtain⟨v,h3,h4⟩:=UR (n+10) (l:=b.P[i]) (by omega)
   refine ab h1 (ab (z:=false) rfl ?_);rw[if_neg (by decide)]
   refine ab gP (ab (z:=b.P.map be) rfl (ab (z:=i) (by rw[bU];exact ak hi) (ab (AJ hi) (ab h3 (ab bg (ab ae ?_))))))
   cases v
   ·exact⟨.inr (0,[I 1]),rfl,I 1,rfl,1,rfl,λh=>by cases h⟩
   ·refine⟨.inl [I ((i+1:Nat):Int)],by rw[if_neg (by decide)];exact aa (au (a:=i) (b:=1) (by omega)) rfl,rfl,?_⟩
    rw[zka hi];intro l hl;rcases zwa.1 hl with hl|hl
    ·exact hJ l hl
    ·rw[zAa.1 hl];exact⟨h2,h4 rfl⟩
 ·obtain⟨rfl,hJ⟩:=hJ;rw[zIa] at hJ;refine⟨.inr (1,[]),aa gP (aa (z:=b.P.map be) rfl (aa af (aa ae (az (by show ¬ ((b.P.length:Int)<((b.P.map be).length:Int));rw[bU];omega) rfl)))),?_⟩
  refine oh ?_;refine cW (λi s=>s=[I (i:Int)]) b.P.length 0 (zga _) rfl (λi hi s hK=>?_) (λs hK=>?_)
  ·subst hK;refine ab gP (ab (z:=b.P.map be) rfl (ab af (ab ae (bA (by show(i:Int)<((b.P.map be).length:Int);rw[bU];omega) ?_))))
   refine cW (λk s=>s=[I (k:Int)]) i 0 (zga _) rfl (λk hk s hK=>?_) (λs hK=>?_)
   ·subst hK;have hk':k<b.P.length:=by omega
    obtain⟨p1,p2⟩:=hJ _ (zla hk');obtain⟨q1,q2⟩:=hJ _ (zla hi);obtain⟨v,hv⟩:=US n p1 q1 p2 q2;refine ab af (ab ae (bA (by show(k:Int)<(i:Int);omega) ?_))
    refine ab gP (ab (z:=b.P.map be) rfl (ab (z:=k) (by rw[bU];exact ak hk') (ab (AJ hk') ?_)))
    refine ab gP (ab (z:=b.P.map be) rfl (ab (z:=i) (by rw[bU];exact ak hi) (ab (AJ hi) (ab hv (ab bg (ab ae ?_))))))
    cases v
    ·exact⟨.inr (0,[I 150]),rfl,.inr (0,[I 150]),rfl,I 150,rfl,150,rfl,λh=>by cases h⟩
    ·exact⟨.inl [I ((k+1:Nat):Int)],by rw[if_neg (by decide)];exact aa (au (a:=k) (b:=1) (by omega)) rfl,rfl⟩
   ·subst hK;refine⟨.inr (1,[]),aa af (aa ae (az (by show ¬ ((i:Int)<(i:Int));omega) rfl)),.inl [I ((i+1:Nat):Int)],?_,rfl⟩
    rw[if_neg (by decide)]
    exact aa (au (a:=i) (b:=1) (by omega)) rfl
  ·subst hK;refine⟨.inr (1,[]),aa gP (aa (z:=b.P.map be) rfl (aa af (aa ae (az (by show ¬ ((b.P.length:Int)<((b.P.map be).length:Int));rw[bU];omega) rfl)))),I 0,rfl,0,rfl,λ_=>?_⟩
   exact⟨by omega,hf,hv,λl hl=>(hJ l hl).1,λl hl=>(hJ l hl).2,by omega,by omega,by omega⟩
def UE(n:Nat)(b:Bdy)(hL:b.P.length<=9223372036854775807):∃ v:Bool,cA (n+13) 326 [eW b]=some (.bool v)/\(v=true->BOk b):=by
 obtain⟨v,h1,h2⟩:=UJ (n+11) b hL;rw[WB];delta It qT Jn;cases v
 ·exact⟨false,aa h1 (aa (z:=false) rfl (aa (z:=false) rfl rfl)),λh=>by cases h⟩
 ·obtain⟨k1,k2⟩:=h2 rfl;obtain⟨e,h3,h4⟩:=UK n b k1 k2;refine⟨decide (e=0),aa h1 (aa (z:=true) rfl (aa (z:=decide (e=0)) (jl (aa h3 ?_)) rfl)),λh=>h4 (of_decide_eq_true h)⟩;rw[show D.beq (I e) (D.int .i64 0)=decide (e=0) from bF];rfl
end Sy
end
noncomputable section
namespace Sy
open Go Go.Proofs Geo
end Sy
end
noncomputable section
namespace Sy
open Go Go.Proofs Geo
abbrev Po:=V×(Nat->Int)
def f8(p:Po):D:=Cc p.1 p.2
def FC{L:List Po}{i:Nat}(h:i<L.length):(L.map f8)[i]?=some (f8 L[i]):=by simp[h]
def mv(L:List Po):(L.map f8).length=L.length:=zoa ..
def iV(L:List Po)(i:Nat):Int:=match L[i]? with|some p=>p.1.z|none=>0
end Sy
end
noncomputable section
namespace Sy
open Go Go.Proofs Geo
def yu(k:Nat)(f:Nat)(xs:List D):Option D:=if f=307 then sA (XI 2000) 17 307 xs else cA k f xs
def Ff(k:Nat):ik Tryz.prog (yu k):=by
 intro f ptys rty xs y hs hy hw;unfold yu at hy;split at hy
 ·rename_i hf;exact sB (DG 2000) 17 f ptys rty xs y hs (by rw[hf];exact hy) hw
 ·exact yt tH k f ptys rty xs y hs hy hw
def Ai{d:D}(h:wt K1 d):∃ v:V,d=ag v:=by
 obtain⟨l,rfl,hl,h⟩:=h
 match l,hl with
 | [a,b,c],_=>
  obtain⟨x,rfl⟩:=h a (by simp)
  obtain⟨y,rfl⟩:=h b (by simp)
  obtain⟨z,rfl⟩:=h c (by simp)
  exact⟨⟨x,y,z⟩,rfl⟩
def mL{α:Type}{t:Ty}{e:α->D}(he:∀ d,wt t d->∃ v,d=e v){d:D}(h:wt (.sl t) d):∃ l:List α,d=.sl (l.map e):=by
 obtain⟨l,rfl,h⟩:=h;have key:∀ l:List D,(∀ x∈l,wt t x)->∃ m:List α,l=m.map e:=by
  intro l
  induction l with
  | nil=>intro _;exact⟨[],rfl⟩
  | cons x l ih=>
   intro h;obtain⟨v,rfl⟩:=he x (h x (by simp))
   obtain⟨m,rfl⟩:=ih λy hy=>h y (by simp[hy])
   exact⟨v::m,rfl⟩
 obtain⟨m,rfl⟩:=key l h;exact⟨m,rfl⟩
def G6{d:D}(h:wt K2 d):∃ l:List V,d=aS l:=mL (e:=ag) (λd h=>Ai h) h
def O3{d:D}(h:wt K3 d):∃ l:List V,d=be l:=by
 obtain⟨l,rfl,d,l',rfl,h1,h2⟩:=h;have h2':l'=[]:=h2;subst h2';obtain⟨m,rfl⟩:=G6 h1;exact⟨m,rfl⟩
def MX{d:D}(h:wt PM d):∃ P:List (List V),d=.sl (P.map be):=mL (e:=be) (λd h=>O3 h) h
def G8{d:D}(h:wt K8 d):∃ a b:Int,d=.st [I a,I b]:=by
 obtain⟨l,rfl,hl,h⟩:=h
 match l,hl with
 | [a,b],_=>
  obtain⟨x,rfl⟩:=h a (by simp)
  obtain⟨y,rfl⟩:=h b (by simp)
  exact⟨x,y,rfl⟩
def MY{d:D}(h:wt iZ d):∃ b:Bdy,d=eW b:=by
 obtain⟨l,rfl,d1,l1,rfl,h1,d2,l2,rfl,h2,d3,l3,rfl,h3,d4,l4,rfl,h4,h5⟩:=h;have h5':l4=[]:=h5;subst h5';obtain⟨s,rfl⟩:=h1;obtain⟨P,rfl⟩:=MX h2;obtain⟨m0,m1,rfl⟩:=G8 h3;obtain⟨r0,r1,rfl⟩:=G8 h4;exact⟨⟨s,P,m0,m1,r0,r1⟩,rfl⟩
def MZ{d:D}(h:wt ph d):∃ q:Nat->Int,d=pH q:=by
 obtain⟨l,rfl,hl,h⟩:=h
 match l,hl with
 | [a,b,c,e],_=>
  obtain⟨x,rfl⟩:=h a (by simp)
  obtain⟨y,rfl⟩:=h b (by simp)
  obtain⟨z,rfl⟩:=h c (by simp)
  obtain⟨w,rfl⟩:=h e (by simp)
  exact⟨λi=>[x,y,z,w].getD i 0,rfl⟩
def G7{d:D}(h:wt Ao d):∃ p:Po,d=f8 p:=by
 obtain⟨l,rfl,d1,l1,rfl,h1,d2,l2,rfl,h2,h5⟩:=h;have h5':l2=[]:=h5;subst h5';obtain⟨v,rfl⟩:=Ai h1;obtain⟨q,rfl⟩:=MZ h2;exact⟨(v,q),rfl⟩
def M0{d:D}(h:wt Jf d):∃ L:List Po,d=.sl (L.map f8):=mL (e:=f8) (λd h=>G7 h) h
def Vi{b:Bdy}(h:ED (eW b)):b.P.length<=9223372036854775807:=by
 have:=h.2.1.1;rw[zoa] at this;exact this
end Sy
end
noncomputable section
namespace Sy
open Go Go.Proofs Geo
def NE:D:=.st [E0,aj 1]
def bq:Option Rat->D
 | some q=>dn q
 | none=>NE
def OW(a:Option Rat):Prop:=∀ q,a=some q->ye q
theorem OW.some{q:Rat}(h:OW (some q)):ye q:=h q rfl
def cY{q:Rat}(h:ye q):OW (some q):=λy e=>by cases e;exact h
def kl:OW none:=λy e=>by cases e
def sf:uv none:=λy e=>by cases e
def nC:Option Int->Option Int->Option Rat
 | some n,some d=>if d=0 then none else some (Rat.divInt n d)
 | _,_=>none
def xj{a b:Option Int}(ha:uv a)(hb:uv b):OW (nC a b):=by
 cases a<;>cases b<;>simp only[nC]<;>first|exact kl|skip
 split
 ·exact kl
 ·exact cY (fg ha.some hb.some (by assumption))
def wG(a b:Option Int):uv (wF a b):=by
 cases a<;>cases b<;>simp only[wF]<;>first|exact sf|exact zw _
def kB(a b:Option Int):uv (nD a b):=by
 cases a<;>cases b<;>simp only[nD]<;>first|exact sf|exact zw _
def Gp{x:Int}(hx:In x)(g:Int):In (x/g):=Nx hx (Int.natAbs_ediv_le_natAbs x g)
def LI(x y:Rat):Option Rat:=
 nC (wF (nD (some x.num) (some ((y.den:Int)/(Nat.gcd x.den y.den:Nat)))) (nD (some y.num) (some ((x.den:Int)/(Nat.gcd x.den y.den:Nat))))) (nD (some ((x.den:Int)/(Nat.gcd x.den y.den:Nat))) (some (y.den:Int)))
def eC:Option Rat->Option Rat->Option Rat
 | some x,some y=>LI x y
 | _,_=>none
def MC(x y:Rat):Option Rat:=
 nC (nD (some (Rat.divInt x.num y.den).num) (some (Rat.divInt y.num x.den).num)) (nD (some ((Rat.divInt x.num y.den).den:Int)) (some ((Rat.divInt y.num x.den).den:Int)))
def gr:Option Rat->Option Rat->Option Rat
 | some x,some y=>MC x y
 | _,_=>none
def F9(a:Option Rat):Option Rat:=a.map (λx=>-x)
def El(a b:Option Rat):Option Rat:=eC a (F9 b)
def Mb(a b:Option Rat):Option Rat:=b.elim none λy=>gr a (nC (some (y.den:Int)) (some y.num))
def jc(a b:Option Rat):OW (eC a b):=by
 cases a<;>cases b<;>simp only[eC]<;>first|exact kl|exact xj (wG _ _) (kB _ _)
def oL(a b:Option Rat):OW (gr a b):=by
 cases a<;>cases b<;>simp only[gr]<;>first|exact kl|exact xj (kB _ _) (kB _ _)
def CJ{a:Option Rat}(h:OW a):OW (F9 a):=by
 cases a with
 | none=>exact kl
 | some x=>exact cY ⟨bh.2 (by rw[Rat.neg_num,zBc];exact bh.1 h.some.1),h.some.2⟩
def Ky(a b:Option Rat):OW (El a b):=jc _ _
def qb{a b:Option Int}{z:Int}(h:nD a b=some z):∃ x y,a=some x/\b=some y/\z=x*y/\In z:=by
 have hi:=kB a b z h;cases a<;>cases b<;>simp only[nD,jW] at h<;>try cases h
 split at h
 ·cases h;exact⟨_,_,rfl,rfl,rfl,hi⟩
 ·cases h
def Dd{a b:Option Int}{z:Int}(h:wF a b=some z):∃ x y,a=some x/\b=some y/\z=x+y/\In z:=by
 have hi:=wG a b z h;cases a<;>cases b<;>simp only[wF,jW] at h<;>try cases h
 split at h
 ·cases h;exact⟨_,_,rfl,rfl,rfl,hi⟩
 ·cases h
def DH{a b:Option Int}{z:Rat}(h:nC a b=some z):∃ x y,a=some x/\b=some y/\y≠0/\z=Rat.divInt x y:=by
 cases a<;>cases b<;>simp only[nC] at h<;>try cases h
 split at h
 ·cases h
 ·cases h;exact⟨_,_,rfl,rfl,by assumption,rfl⟩
def GO(x y:Rat):∃ g a b:Nat,g=Nat.gcd x.den y.den/\0<g/\x.den=g*a/\y.den=g*b/\0<a/\0<b/\(x.den:Int)/(Nat.gcd x.den y.den:Nat)=a/\(y.den:Int)/(Nat.gcd x.den y.den:Nat)=b:=by
 obtain⟨g,hg⟩:∃ g,g=Nat.gcd x.den y.den:=⟨_,rfl⟩;have hxp:=x.den_pos;have hyp:=y.den_pos;have gp:0<g:=by rw[hg];exact Nat.gcd_pos_of_pos_left _ hxp
 obtain⟨a,ha⟩:g ∣ x.den:=hg ▸ zhb _ _;obtain⟨b,hb⟩:g ∣ y.den:=hg ▸ zwb _ _;have g0:(g:Int)≠0:=by omega
 refine⟨g,a,b,hg,gp,ha,hb,Nat.pos_of_ne_zero λh=>by rw[h] at ha;omega,Nat.pos_of_ne_zero λh=>by rw[h] at hb;omega,?_,?_⟩
 ·rw[<-hg,ha,zNa];exact z0a _ g0
 ·rw[<-hg,hb,zNa];exact z0a _ g0
def EW{x y z:Rat}(h:eC (some x) (some y)=some z):z=x+y:=by
 obtain⟨g,a,b,hg,gp,ha,hb,a0,b0,ea,eb⟩:=GO x y;simp only[eC,LI,ea,eb] at h;obtain⟨p,q,hp,hq,q0,rfl⟩:=DH h;obtain⟨s,t,hs,ht,rfl,_⟩:=Dd hp;obtain⟨_,_,h1,h2,rfl,_⟩:=qb hs;obtain⟨_,_,h3,h4,rfl,_⟩:=qb ht;obtain⟨_,_,h5,h6,rfl,_⟩:=qb hq;cases h1;cases h2;cases h3;cases h4;cases h5;cases h6;exact wl ha hb q0
def oK{x y:Int}(h:In (x*y)):nD (some x) (some y)=some (x*y):=eK h
def Jj{x y:Int}(h:In (x+y)):wF (some x) (some y)=some (x+y):=eK h
def yh{x y:Rat}(hf:fitA x y):eC (some x) (some y)=some (x+y):=by
 obtain⟨f1,f2⟩:=hf;obtain⟨g,a,b,hg,gp,ha,hb,a0,b0,ea,eb⟩:=GO x y;have ha':a<=x.den:=by rw[ha];exact zub _ gp
 have hb':b<=y.den:=by rw[hb];exact zub _ gp
 have m1:x.num.natAbs*b<=x.num.natAbs*y.den:=zXa _ hb';have m2:y.num.natAbs*a<=y.num.natAbs*x.den:=zXa _ ha';have m3:a*y.den<=x.den*y.den:=zya _ ha';have i1:In (x.num*b):=bh.2 (by rw[zFa,zxa];omega)
 have i2:In (y.num*a):=bh.2 (by rw[zFa,zxa];omega)
 have i3:In (x.num*b+y.num*a):=bh.2 (by
  have:=zLc (x.num*b) (y.num*a);rw[zFa,zFa,zxa,zxa] at this;omega)
 have i4:In ((a:Int)*y.den):=bh.2 (by rw[<-zNa,zxa];omega)
 have hne:(a:Int)*y.den≠0:=by
  have:0<a*y.den:=Nat.mul_pos a0 y.den_pos;rw[<-zNa];omega
 simp only[eC,LI,ea,eb];rw[oK i1,oK i2,Jj i3,oK i4];simp only[nC];rw[if_neg hne,wl ha hb hne]
def A2(x y:Rat):Rat.divInt x.num y.den*Rat.divInt y.num x.den=x*y:=by
 conv=>rhs;rw[<-zpb x,<-zpb y]
 rw[zTb,zTb,zKc (y.den:Int)]
def zr{x y:Rat}(hf:fitM x y):gr (some x) (some y)=some (x*y):=by
 obtain⟨f1,f2⟩:=hf;obtain⟨p1,p2⟩:=ib x.num (cg y);obtain⟨q1,q2⟩:=ib y.num (cg x);rw[zxa] at p2 q2;have e:=A2 x y;simp only[gr,MC];generalize Rat.divInt x.num y.den=P at *;generalize Rat.divInt y.num x.den=Q at *;have i1:In (P.num*Q.num):=bh.2 (by rw[zFa];exact zJa (zVa p1 q1) f1)
 have i2:In ((P.den:Int)*Q.den):=bh.2 (by
  rw[<-zNa,zxa];exact zJa (zVa p2 q2) (by rw[zGa];exact f2))
 rw[oK i1,oK i2];simp only[nC];rw[if_neg (Int.mul_ne_zero (cg P) (cg Q)),<-zTb,zpb,zpb,e]
def ME{n f:Nat}{a b:Option Int}{e:Option Int->D}(h:(a.isSome&&b.isSome)=false)(hb:cA n f [e b]=some (.bool b.isSome)) :
  (if(!a.isSome)=true then some true else Option.bind (cA n f [e b]) λr=>Option.bind (D.un .not r) λx=>D.truth x)=some true:=by
 cases hA:a.isSome with
 | false=>rfl
 | true=>
  rw[hA] at h;have:b.isSome=false:=by simpa using h
  rw[if_neg (by decide),hb,this];rfl
def m8{a b:Option Rat}:(a.isSome&&b.isSome)=false\/∃ x y,a=some x/\b=some y:=by
 cases a<;>cases b<;>simp
def CM{n f:Nat}{a b:Option Rat}(h:(a.isSome&&b.isSome)=false)(hb:cA n f [bq b]=some (.bool b.isSome)) :
  (if(!a.isSome)=true then some true else Option.bind (cA n f [bq b]) λr=>Option.bind (D.un .not r) λx=>D.truth x)=some true:=by
 cases hA:a.isSome with
 | false=>rfl
 | true=>
  rw[hA] at h;have:b.isSome=false:=by simpa using h
  rw[if_neg (by decide),hb,this];rfl
def Ml{x y:Rat}(hx:ye x):In ((Nat.gcd x.den y.den:Nat):Int):=fG.2 (zJa (Nat.gcd_le_left _ x.den_pos) (fG.1 hx.2))
def xl{x d:Int}(h:d≠0):nC (some x) (some d)=some (Rat.divInt x d):=by simp only[nC];rw[if_neg h]
end Sy
end
noncomputable section
namespace Sy
open Go Go.Proofs Geo
def yo(n:Nat){a:Option Int}(ha:uv a):cA (n+2) 128 [dS a]=some (.bool a.isSome):=by
 cases a with
 | some x=>exact E8 n ha.some
 | none=>rw[OS];delta EK qG qN;exact aa (z:=.bool true) rfl (aa (z:=.bool false) rfl (aa (z:=false) rfl (aa (z:=false) rfl rfl)))
def yp(n:Nat):cA (n+4) 130 []=some NE:=by
 rw[VO];unfold HH;exact aa (Dh (n+2)) (aa (L0 n) rfl)
def Oa(n:Nat){a b:Option Int}(ha:uv a)(hb:uv b):cA (n+1030) 62 [dS a,dS b]=some (bq (nC a b)):=by
 rcases ks (a:=a) (b:=b) with h|⟨x,d,rfl,rfl⟩
 ·have e:nC a b=none:=by cases a<;>cases b<;>simp at h<;>rfl
  rw[e,Xm];delta Nb qC qT qN Jn;exact aa (yo (n+1027) ha) (aa bg (aa ae (aa (ME h (yo (n+1027) hb)) (aa (z:=true) rfl (aa (z:=true) rfl (aa (z:=true) rfl (jl (aa (yp (n+1025)) rfl))))))))
 ·by_cases hd:d=0
  ·subst hd;rw[Xm];delta Nb qC qT qN Jn;refine aa (yo (n+1027) ha) (aa bg (aa (z:=false) rfl (aa (z:=false) ?_ (aa (z:=false) rfl (aa (z:=true) ?_ (aa (z:=true) rfl (jl (aa (yp (n+1025)) rfl))))))))
   ·rw[if_neg (by decide)];exact aa (yo (n+1027) hb) (aa bg rfl)
   ·rw[if_neg (by decide)];exact aa (Di (n+1026) hb.some) rfl
  ·rw[xl hd];exact JE n ha.some hb.some hd
def Fd(n:Nat){x y:Int}(hx:In x)(hy:In y):cA (n+3) 61 [aj x,aj y]=some (dS (nD (some x) (some y))):=XD n (a:=some x) (b:=some y) (bK hx) (bK hy)
def U6(n:Nat){x d:Int}(hx:In x)(hd:In d):cA (n+1030) 62 [aj x,aj d]=some (bq (nC (some x) (some d))):=Oa n (a:=some x) (b:=some d) (bK hx) (bK hd)
def io(n:Nat){a:Option Rat}(ha:OW a):cA (n+1030) 136 [bq a]=some (.bool a.isSome):=by
 cases a with
 | some q=>exact JA n ha.some
 | none=>
  rw[OT];delta EL qG qB qT Jn;exact aa (z:=E0) rfl (aa (yo (n+1027) (a:=none) sf) (aa (z:=false) rfl (aa (z:=false) rfl (aa (z:=false) rfl (aa (z:=false) rfl (aa (z:=false) rfl (aa (z:=false) rfl rfl)))))))
def yr(n:Nat){a b:Option Rat}(ha:OW a)(hb:OW b):cA (n+1031) 173 [bq a,bq b]=some (bq (eC a b)):=by
 rcases m8 (a:=a) (b:=b) with h|⟨x,y,rfl,rfl⟩
 ·have e:eC a b=none:=by cases a<;>cases b<;>simp at h<;>rfl
  rw[e,OV];delta EN qG qT qN;exact aa (io n ha) (aa bg (aa ae (aa (CM h (io n hb)) (aa (z:=true) rfl (jl (aa (yp (n+1026)) rfl))))))
 ·have hx:=ha.some;have hy:=hb.some;rw[OV];delta EN qG qT qN;refine aa (io n ha) (aa bg (aa (z:=false) rfl (aa (z:=false) ?_ (aa (z:=false) rfl ?_))))
  ·rw[if_neg (by decide)];exact aa (io n hb) (aa bg rfl)
  rw[if_neg (by decide)]
  obtain⟨g,p,q,hg,gp,hp,hq,p0,q0,ep,eq⟩:=GO x y;have gi:=Ml (y:=y) hx;have g0:((Nat.gcd x.den y.den:Nat):Int)≠0:=by rw[<-hg];omega
  have h1:=LX (n+1) hx.2 hy.2;rw[zxa,zxa] at h1;have h2:=Jz (n+1024) hx.2 gi g0 ⟨p,by rw[<-hg,hp,zNa]⟩
  have h3:=Jz (n+1024) hy.2 gi g0 ⟨q,by rw[<-hg,hq,zNa]⟩
  have ip:=Gp hx.2 ((Nat.gcd x.den y.den:Nat):Int);have iq:=Gp hy.2 ((Nat.gcd x.den y.den:Nat):Int);refine aa (z:=aj (x.den:Int)) rfl (aa (z:=aj (y.den:Int)) rfl (aa h1 ?_));refine aa (z:=aj (x.den:Int)) rfl (aa h2 (aa (z:=aj (y.den:Int)) rfl (aa h3 (aa (z:=aj x.num) rfl (aa (Fd (n+1027) hx.1 iq) (aa (z:=aj y.num) rfl (aa (Fd (n+1027) hy.1 ip) (aa (XC (n+1026) (kB _ _) (kB _ _)) (aa (z:=aj (y.den:Int)) rfl (aa (Fd (n+1027) ip hy.2) ?_))))))))));exact aa (Oa n (wG _ _) (kB _ _)) rfl
def uX(n:Nat){a b:Option Rat}(ha:OW a)(hb:OW b):cA (n+1031) 174 [bq a,bq b]=some (bq (gr a b)):=by
 rcases m8 (a:=a) (b:=b) with h|⟨x,y,rfl,rfl⟩
 ·have e:gr a b=none:=by cases a<;>cases b<;>simp at h<;>rfl
  rw[e,MR];delta C9 qG qT qN;exact aa (io n ha) (aa bg (aa ae (aa (CM h (io n hb)) (aa (z:=true) rfl (jl (aa (yp (n+1026)) rfl))))))
 ·have hx:=ha.some;have hy:=hb.some;rw[MR];delta C9 qG qT qN;refine aa (io n ha) (aa bg (aa (z:=false) rfl (aa (z:=false) ?_ (aa (z:=false) rfl ?_))))
  ·rw[if_neg (by decide)];exact aa (io n hb) (aa bg rfl)
  rw[if_neg (by decide)]
  obtain⟨v1,v2⟩:=rN x.num (cg y);obtain⟨w1,w2⟩:=rN y.num (cg x);rw[zxa] at v2 w2;have r1:=fg hx.1 hy.2 (cg y);have r2:=fg hy.1 hx.2 (cg x);refine aa (z:=aj x.num) rfl (aa (z:=aj (y.den:Int)) rfl (aa (JE n hx.1 hy.2 (cg y)) (aa (z:=aj y.num) rfl (aa (z:=aj (x.den:Int)) rfl (aa (JE n hy.1 hx.2 (cg x)) ?_)))));simp only[gr,MC];generalize Rat.divInt x.num y.den=P at *;generalize Rat.divInt y.num x.den=Q at *;refine aa (z:=aj P.num) rfl (aa (z:=aj Q.num) rfl (aa (Fd (n+1027) r1.1 r2.1) (aa (z:=aj (P.den:Int)) rfl (aa (z:=aj (Q.den:Int)) rfl (aa (Fd (n+1027) r1.2 r2.2) ?_)))));have hpos:0<(P.den:Int)*Q.den:=by
   have:=Nat.mul_pos P.den_pos Q.den_pos;rw[<-zNa];omega
  have c1:Nat.Coprime P.num.natAbs P.den:=P.reduced;have c2:Nat.Coprime Q.num.natAbs Q.den:=Q.reduced;have c3:Nat.Coprime P.num.natAbs Q.den:=zCc v1 (zxc w2 x.reduced);have c4:Nat.Coprime Q.num.natAbs P.den:=zCc w1 (zxc v2 y.reduced);have hred:Nat.gcd (P.num*Q.num).natAbs ((P.den:Int)*Q.den).natAbs=1:=by
   rw[zFa,<-zNa,zxa];exact Nat.Coprime.mul_left (z8c c1 c3) (z8c c4 c2)
  obtain⟨z1,z2⟩:=sQ hpos hred;simp only[nD,jW];by_cases t1:(P.num*Q.num).natAbs<eP
  ·rw[if_pos t1];by_cases t2:((P.den:Int)*Q.den).natAbs<eP
   ·rw[if_pos t2];refine aa (z:=.bool false) rfl (aa (z:=false) rfl (aa (z:=false) ?_ (aa (z:=false) rfl ?_)))
    ·rw[if_neg (by decide)]
     exact aa (z:=.bool false) rfl rfl
    rw[if_neg (by decide),xl (by omega)]
    show some (D.st [aj (P.num*Q.num),aj ((P.den:Int)*Q.den)])=some (D.st [aj (Rat.divInt (P.num*Q.num) ((P.den:Int)*Q.den)).num,aj ((Rat.divInt (P.num*Q.num) ((P.den:Int)*Q.den)).den:Int)]);rw[z1,z2]
   ·rw[if_neg t2];refine aa (z:=.bool false) rfl (aa (z:=false) rfl (aa (z:=true) ?_ (aa (z:=true) rfl (jl (aa (yp (n+1026)) rfl)))));rw[if_neg (by decide)]
    exact aa (z:=.bool true) rfl rfl
  ·rw[if_neg t1];exact aa (z:=.bool true) rfl (aa (z:=true) rfl (aa (z:=true) rfl (aa (z:=true) rfl (jl (aa (yp (n+1026)) rfl)))))
def KW(n:Nat){a:Option Rat}(ha:OW a):cA (n+1031) 357 [bq a]=some (bq (F9 a)):=by
 cases a with
 | some q=>exact UO n ha.some
 | none=>rw[OY];delta EP qG qN;exact aa (io n ha) (aa bg (aa (z:=true) rfl (jl (aa (yp (n+1026)) rfl))))
def NY(n:Nat){a b:Option Rat}(ha:OW a)(hb:OW b):cA (n+1032) 336 [bq a,bq b]=some (bq (El a b)):=by
 rw[WG];unfold Iy;exact aa (KW n hb) (aa (yr n ha (CJ hb)) rfl)
def N3(n:Nat){a b:Option Rat}(ha:OW a)(hb:OW b):cA (n+1032) 352 [bq a,bq b]=some (bq (Mb a b)):=by
 rw[WQ];delta II qG qN;cases b with
 | none=>exact aa (io (n+1) hb) (aa bg (aa (z:=true) rfl (jl (aa (yp (n+1027)) rfl))))
 | some y=>
  refine aa (io (n+1) hb) (aa bg (aa (z:=false) rfl ?_));rw[if_neg (by decide)]
  exact aa (z:=aj (y.den:Int)) rfl (aa (z:=aj y.num) rfl (aa (U6 (n+1) hb.some.2 hb.some.1) (aa (uX n ha (xj (bK hb.some.2) (bK hb.some.1))) rfl)))
end Sy
end
noncomputable section
namespace Sy
open Go Go.Proofs Geo
def CB{body:Bd}{k:Nat×List D->Option D}{y:D}{l0:List D}(x:Nat->D)(h0:l0.length=3)
  (hs:∀ i:Nat,i<3->∀ l:List D,l.length=3->(∀ j:Nat,i<=j->l[j]?=l0[j]?)->body [I (i:Int),.st l]=some (.inl [I ((i+1:Nat):Int),.st (l.set i (x i))]))
  (he:∀ l,body [I ((3:Nat):Int),.st l]=some (.inr (0,[.st l]))) (hk:k (0,[.st [x 0,x 1,x 2]])=some y):Option.bind (aN body [I ((0:Nat):Int),.st l0]) k=some y:=by
 match l0,h0 with
 | [a,b,c],_=>
 have s0:=hs 0 (by decide) [a,b,c] rfl (λj _=>rfl)
 have s1:=hs 1 (by decide) [x 0,b,c] rfl (λj hj=>by cases j with|zero=>omega|succ j=>rfl)
 have s2:=hs 2 (by decide) [x 0,x 1,c] rfl (λj hj=>by cases j with|zero=>omega|succ j=>cases j with|zero=>omega|succ j=>rfl)
 exact bn s0 (bn s1 (bn s2 (fc (he _) hk)))
abbrev WV:=Nat->Option Rat
def jk(v:WV):D:=.st [bq (v 0),bq (v 1),bq (v 2)]
def Hc(v:WV):Prop:=∀ i,OW (v i)
def yb(v:V):WV:=λi=>some (dY v i:Rat)
def AL{i:Nat}(h:i<3)(v:WV):D.get (jk v) [i]=some (bq (v i)):=by
 have:i=0\/i=1\/i=2:=by omega
 rcases this with rfl|rfl|rfl<;>rfl
def uk{v:V}(h:∀ i,inR (dY v i)):Hc (yb v):=λi=>cY (yf (ce (h i)))
def tj{v:V}(h1:inR v.x)(h2:inR v.y)(h3:inR v.z)(i:Nat):inR (dY v i):=by
 unfold dY;split<;>(try split)<;>assumption
def BY(n:Nat){v:V}(h:∀ i,inR (dY v i)):cA (n+1033) 135 [ag v]=some (jk (yb v)):=Ui n (h 0) (h 1) (h 2)
def wB{a:Option Rat}(h:OW a):eC (some 0) a=a:=by
 cases a with
 | none=>rfl
 | some x=>
  have e:eC (some 0) (some x)=some (0+x):=yh ⟨by simpa using bh.1 h.some.1,by simpa using bh.1 h.some.2⟩
  rw[e,Rat.zero_add]
def tq(u v:WV):Option Rat:=eC (eC (gr (u 0) (v 0)) (gr (u 1) (v 1))) (gr (u 2) (v 2))
def rS(u v:WV):OW (tq u v):=jc _ _
def BX(n:Nat){u v:WV}(hu:Hc u)(hv:Hc v):cA (n+1033) 134 [jk u,jk v]=some (bq (tq u v)):=by
 rw[VS];delta HL qB qC qJ qZ iL iR Jn;refine aa (Hd n (eO 0)) ?_;have st:∀ i:Nat,i<3->∀ a,OW a->(Option.bind (D.bin .lss (List.getD [I (i:Int),bq a] 0 (.bool false)) (D.int .i64 3)) λx3=>Option.bind (D.truth x3) λb4=>
   if b4 then(Option.bind (D.idx (List.getD [I (i:Int),bq a] 0 (.bool false)) 3) λi5=>Option.bind (D.get (jk u) [i5]) λx6=>Option.bind (D.idx (List.getD [I (i:Int),bq a] 0 (.bool false)) 3) λi7=>Option.bind (D.get (jk v) [i7]) λx8=>
    Option.bind (cA (n+1032) 174 [x6,x8]) λr9=>Option.bind (cA (n+1032) 173 [(List.getD [I (i:Int),bq a] 1 (.bool false)),r9]) λr10=>Option.bind (D.bin .add (List.getD [I (i:Int),bq a] 0 (.bool false)) (D.int .i64 1)) λx11=>some (Sum.inl [x11,r10]))
   else(some (Sum.inr ((0:Nat),[(List.getD [I (i:Int),bq a] 1 (.bool false))]))))=some (Sum.inl [I ((i+1:Nat):Int),bq (eC a (gr (u i) (v i)))]):=λi hi a ha=>
  aa af (aa ae (aC (by show(i:Int)<3;omega) (aa (ak hi) (aa (AL hi u) (aa (ak hi) (aa (AL hi v) (aa (uX (n+1) (hu i) (hv i)) (aa (yr (n+1) ha (oL _ _)) (aa (au (a:=i) (b:=1) (by omega)) rfl)))))))))
 have z:OW (some (0:Rat)):=cY (yf (ce (eO 0)));have s0:=st 0 (by decide) (some 0) z
 have s1:=st 1 (by decide) (eC (some 0) (gr (u 0) (v 0))) (jc _ _)
 have s2:=st 2 (by decide) (eC (eC (some 0) (gr (u 0) (v 0))) (gr (u 1) (v 1))) (jc _ _)
 have e:=wB (oL (u 0) (v 0));unfold tq;rw[<-e];exact bn s0 (bn s1 (bn s2 (fc (aa af (aa ae (az (by decide) rfl))) rfl)))
def U7(n:Nat){u:V}{v:WV}(hu:∀ i,inR (dY u i))(hv:Hc v):cA (n+1034) 72 [ag u,jk v]=some (bq (tq (yb u) v)):=by
 rw[u72];unfold Px;exact aa (BY n hu) (aa (BX n (uk hu) hv) rfl)
def CO(u v:WV):WV:=λi=>eC (u i) (v i)
def Gi(u v:WV):Hc (CO u v):=λi=>jc _ _
def xH{l:List D}{i:Nat}{v:D}(h:i<l.length):D.set (.st l) [i] v=some (.st (l.set i v)):=by
 simp only[D.set,zca h,zba]
def N5(n:Nat){u v:WV}(hu:Hc u)(hv:Hc v):cA (n+1032) 371 [jk u,jk v]=some (jk (CO u v)):=by
 rw[W3];delta IU qB qC qJ qZ iL iR Jn;refine CB (l0:=[bq (u 0),bq (u 1),bq (u 2)]) (λi=>bq (CO u v i)) rfl (λi hi l hl hj=>?_) (λl=>aa af (aa ae (az (by decide) rfl))) rfl
 have hg:D.get (.st l) [i]=some (bq (u i)):=by
  have e:=hj i (zja _);have:i=0\/i=1\/i=2:=by omega
  rcases this with rfl|rfl|rfl<;>simp[D.get,D.fld,e]
 exact aa af (aa ae (aC (by show(i:Int)<3;omega) (aa (ak hi) (aa hg (aa (ak hi) (aa (AL hi v) (aa (yr n (hu i) (hv i)) (aa (ak hi) (aa (xH (by omega)) (aa (au (a:=i) (b:=1) (by omega)) rfl))))))))))
end Sy
end
noncomputable section
namespace Sy
open Go Go.Proofs Geo
def nF(f:Nat->Option Rat)(m:Nat):List D:=(List.range m).map λj=>bq (f j)
def F8(f:Nat->Option Rat)(m:Nat):nF f (m+1)=nF f m++[bq (f m)]:=by unfold nF;rw[zxb,zPb];rfl
def kC(f:Nat->Option Rat)(m:Nat):(nF f m).length=m:=by simp[nF]
def CI(f:Nat->Option Rat){m j:Nat}(h:j<m):(nF f m)[j]?=some (bq (f j)):=by simp[nF,h]
def eM(f:Nat->Option Rat):D:=.st [I 3,I 3,.sl (nF f 9)]
def CC{h:List D->Option D}{a0 a1:D}(g:Nat->Option Rat)(hg:∀ i k:Nat,i<3->k<3->h [I (i:Int),I (k:Int),a0,a1]=some (bq (g (3*i+k)))) :
  tJ aN h a0 a1 (I 3) (I 3)=some (0,[I 0,I 0,.sl [],I 0,I 0,.sl [],I 3,I 3,.sl (nF g 9)]):=by
 have e:(some (0,[I 0,I 0,.sl [],I 0,I 0,.sl [],I 3,I 3,.sl (nF g 9)]):Option (Nat×List D))=Option.bind (tJ aN h a0 a1 (I 3) (I 3)) some->tJ aN h a0 a1 (I 3) (I 3)=some (0,[I 0,I 0,.sl [],I 0,I 0,.sl [],I 3,I 3,.sl (nF g 9)]):=λe=>by
  rw[e];cases tJ aN h a0 a1 (I 3) (I 3)<;>rfl
 refine e (Eq.symm ?_)
 delta tJ qB qC qV qW qZ iL iR Jn
 refine bT (λi s=>s=[I (i:Int),a0,a1,I 0,I 0,.sl [],I 0,I 0,.sl [],I 3,I 3,.sl (nF g (3*i))]) 3 0 (by decide) rfl (λi hi s hJ=>?_) (λs hJ=>?_)
 ·subst hJ;left;refine⟨_,?_,rfl⟩;refine aa af (aa ae (aC (by show(i:Int)<3;omega) ?_))
  refine bT (λk s=>s=[I (k:Int),a0,a1,I 0,I 0,.sl [],I 0,I 0,.sl [],I 3,I 3,.sl (nF g (3*i+k))]) 3 0 (by decide) rfl (λk hk s hK=>?_) (λs hK=>?_)
  ·subst hK;left;refine⟨_,?_,rfl⟩;refine aa af (aa ae (aC (by show(k:Int)<3;omega) (aa (hg i k hi hk) ?_)))
   rw[if_pos (by show(nF g (3*i+k)).length+1<=1073741824;rw[kC];omega)]
   rw[show 3*i+(k+1)=(3*i+k)+1 by omega,F8]
   exact aa (au (a:=k) (b:=1) (by omega)) rfl
  ·subst hK;refine⟨_,aa af (aa ae (az (by decide) rfl)),?_⟩
   rw[show 3*(i+1)=3*i+3 by omega]
   exact aa (au (a:=i) (b:=1) (by omega)) rfl
 ·subst hJ;exact⟨_,aa af (aa ae (az (by decide) rfl)),rfl⟩
def MG(f:Nat->Option Rat):Prop:=∀ j,j<9->OW (f j)/\(f j).isSome=true
def FQ{body:Bd}{r0:List D}(m:Nat)(hm:m<=1000)(hs:∀ i,i<m->body [I (i:Int)]=some (.inl [I ((i+1:Nat):Int)]))(he:body [I (m:Int)]=some (.inr (1,r0))){k:Nat×List D->Option D}{y:D}(hk:k (1,r0)=some y):Option.bind (aN body [I ((0:Nat):Int)]) k=some y:=
 ba (λi s=>s=[I (i:Int)]) m 0 (zga _) rfl (λi hi s hJ=>by subst hJ;exact .inl ⟨_,hs i hi,rfl⟩) (λs hJ=>by subst hJ;exact⟨_,he,hk⟩)
def Fc(n:Nat){f:Nat->Option Rat}(hf:MG f):cA (n+1031) 382 [.sl (nF f 9)]=some (.bool true):=by
 rw[Xb];delta I2 qB qC qN qS qX qZ iL iR Jn;refine aa (z:=nF f 9) rfl ?_;refine FQ 9 (by decide) (λi hi=>?_) ?_ ?_ (r0:=[])
 ·obtain⟨h1,h2⟩:=hf i hi;refine aa af (aa ae (aC (by show(i:Int)<((nF f 9).length:Int);rw[kC];omega) (aa (z:=nF f 9) rfl (aa (z:=i) (by rw[kC];exact ak hi) (aa (CI f hi) (aa (io n h1) ?_))))))
  rw[h2];refine aa (z:=.bool false) rfl (aa (z:=false) rfl ?_);rw[if_neg (by decide)]
  exact aa (au (a:=i) (b:=1) (by omega)) rfl
 ·exact aa af (aa ae (az (by show ¬ (((9:Nat):Int)<((nF f 9).length:Int));rw[kC];omega) rfl))
 ·rfl
def N7(n:Nat){f:Nat->Option Rat}(hf:MG f):cA (n+1032) 381 [eM f]=some (I 0):=by
 rw[Xa];delta I1 qG qB qC qT qP Jn;refine aa (z:=I 3) rfl (aa (z:=.bool false) rfl (aa (z:=false) rfl (aa (z:=false) rfl (aa (z:=false) rfl (aa (z:=false) rfl (aa (z:=false) rfl (aa (z:=false) rfl (aa (z:=false) rfl ?_))))))));rw[if_neg (by decide)]
 refine aa (z:=.sl (nF f 9)) rfl (aa (z:=nF f 9) rfl (aa (z:=I 3) rfl (aa (z:=I 3) rfl (aa (z:=I 9) rfl (aa (z:=false) ?_ (aa (z:=false) ?_ (aa (z:=false) rfl rfl)))))))
 ·rw[kC];rfl
 ·rw[if_neg (by decide)]
  have h:=Fc n hf;refine aa (z:=.sl (nF f 9)) rfl ?_;exact aa h rfl
def KX(n:Nat){l:List (Nat->Option Rat)}(hl:l.length<=10)(h:∀ f∈l,MG f):cA (n+1033) 366 [.sl (l.map eM)]=some (.bool true):=by
 have ll:(l.map eM).length=l.length:=zoa ..;rw[W0];delta IS qB qC qT qS qX qZ iL iR Jn;refine aa (z:=l.map eM) rfl ?_;refine FQ l.length (by omega) (λi hi=>?_) ?_ ?_ (r0:=[])
 ·have hg:(l.map eM)[i]?=some (eM l[i]):=by simp[hi]
  refine aa af (aa ae (aC (by show(i:Int)<((l.map eM).length:Int);rw[ll];omega) (aa (z:=l.map eM) rfl (aa (z:=i) (by rw[ll];exact ak hi) (aa hg (aa (N7 n (h _ (zla hi))) (aa (z:=false) rfl ?_)))))))
  rw[if_neg (by decide)]
  exact aa (au (a:=i) (b:=1) (by omega)) rfl
 ·exact aa af (aa ae (az (by show ¬ ((l.length:Int)<((l.map eM).length:Int));rw[ll];omega) rfl))
 ·rfl
def Fb(n:Nat)(f:Nat->Option Rat){i k:Nat}(hi:i<3)(hk:k<3):cA (n+1) 367 [eM f,I (i:Int),I (k:Int)]=some (bq (f (3*i+k))):=by
 rw[W2];delta IT qG qB qX;have e:D.bin .mul (I (i:Int)) (I 3)=some (I ((3*i:Nat):Int)):=by
  have:=lj (a:=i) (b:=3) (by omega)
  rw[zGa i 3] at this;exact this
 exact aa (z:=.sl (nF f 9)) rfl (aa (z:=I 3) rfl (aa e (aa (au (a:=3*i) (b:=k) (by omega)) (aa (z:=nF f 9) rfl (aa (z:=3*i+k) (by rw[kC];exact ak (by omega)) (aa (CI f (by omega)) rfl))))))
def NZ(n:Nat){f g:Nat->Option Rat}(hf:MG f)(hg:MG g)(hs:MG λm=>eC (f m) (g m)):cA (n+1034) 350 [eM f,eM g]=some (.tup [eM (λm=>eC (f m) (g m)),I 0]):=by
 rw[WO];delta IG qG qT qN qW Jn;refine aa (KX n (l:=[f,g]) (by simp) (λx hx=>by simp at hx;rcases hx with rfl|rfl<;>assumption)) (aa (z:=.bool false) rfl (aa (z:=false) rfl (aa (z:=false) rfl (aa (z:=false) rfl (aa (z:=false) rfl (aa (z:=false) rfl ?_))))))
 rw[if_neg (by decide)]
 refine aa (z:=I 3) rfl (aa (z:=I 3) rfl (aa (z:=(0,[I 0,I 0,.sl [],I 0,I 0,.sl [],I 3,I 3,.sl (nF (λm=>eC (f m) (g m)) 9)])) ?_ ?_))
 ·refine CC (h:=cA (n+1033) 407) (λm=>eC (f m) (g m)) λi k hi hk=>?_;rw[Xl];unfold Jc;have hm:3*i+k<9:=by omega
  exact aa (Fb (n+1031) f hi hk) (aa (Fb (n+1031) g hi hk) (aa (yr (n+1) (hf _ hm).1 (hg _ hm).1) rfl))
 ·refine aa (Fc (n+2) hs) (aa (z:=.bool false) rfl (aa (z:=false) rfl ?_));rw[if_neg (by decide)]
  rfl
def N0(n:Nat){f:Nat->Option Rat}{x:Option Rat}(hf:MG f)(hx:OW x)(hx':x.isSome=true)(hs:MG λm=>gr (f m) x):cA (n+1034) 351 [eM f,bq x]=some (.tup [eM (λm=>gr (f m) x),I 0]):=by
 rw[WP];delta IH qG qT qN qW Jn;refine aa (KX n (l:=[f]) (by simp) (λx hx=>by simp at hx;subst hx;assumption)) (aa (z:=.bool false) rfl (aa (z:=false) rfl (aa (z:=false) ?_ (aa (z:=false) rfl ?_))))
 ·rw[if_neg (by decide)]
  refine aa (io (n+3) hx) ?_;rw[hx'];rfl
 rw[if_neg (by decide)]
 refine aa (z:=I 3) rfl (aa (z:=I 3) rfl (aa (z:=(0,[I 0,I 0,.sl [],I 0,I 0,.sl [],I 3,I 3,.sl (nF (λm=>gr (f m) x) 9)])) ?_ ?_))
 ·refine CC (h:=cA (n+1033) 402) (λm=>gr (f m) x) λi k hi hk=>?_;rw[Xk];unfold Jb;have hm:3*i+k<9:=by omega
  exact aa (Fb (n+1031) f hi hk) (aa (uX (n+1) (hf _ hm).1 hx) rfl)
 ·refine aa (Fc (n+2) hs) (aa (z:=.bool false) rfl (aa (z:=false) rfl ?_));rw[if_neg (by decide)]
  rfl
end Sy
end
noncomputable section
namespace Sy
open Go Go.Proofs Geo
structure PMas(l:List V)(W:Int)(S:Nat->Nat->Int):Prop where
 wle:W.natAbs<=2^85
 sle:∀ i k,(S i k).natAbs<=2^125
 pos:0<W
 own:∃ L poly,∃ q∈L,Facets (pt l) l.length L/\(∀ q∈L,bE (pt l) l.length q.1 q.2 (poly q))/\S=λi k=>aT (dt i k) (ke (pt l) L poly)
 c23:∀ n,cA (n+10) 23 [be l]=some (aj W)
 c28:∀ n,cA (n+1031) 28 [be l]=some (.st [I 3,I 3,.sl (cR S 9)])
 Xx:∀ n,cA (n+10) 24 [be l]=some (aj W)
 Xy:∀ n,cA (n+11) 29 [be l]=some (.st [I 3,I 3,.sl (cR S 9)])
def Vk{l:List V}(h:Hul l):∃ W S,PMas l W S:=by
 obtain⟨L,poly,hL,hP,hF,h18,h19⟩:=XH h.bd h.len h.srt;have hT:=EX h.bd hF;obtain⟨m,d,hq⟩:=h.ex;have hm:=(hL.mem (m,d)).2 hq;have h58:=λn=>ZC n h.bd hF h19;have e:=MP l L poly;refine⟨aT ru (gZ l (L.map λq=>(q,poly q))),λi k=>aT (dt i k) (gZ l (L.map λq=>(q,poly q))),j8 hT,λi k=>fA i k hT,?_,⟨L,poly,(m,d),hm,hL,hP,by rw[e]⟩,λn=>c23 n h.bd hF (h18 _),λn=>c28 n h.bd hF h18,λn=>Xx hT h58 n,λn=>Xy hT h58 n⟩
 rw[e];exact KL h.srt hL hP hm
def MA{P:List (List V)}(h:∀ l∈P,Hul l):∃ (W:Nat->Int) (S:Nat->Nat->Nat->Int),∀ i (hi:i<P.length),PMas P[i] (W i) (S i):=by
 have k:∀ i,∃ p:Int×(Nat->Nat->Int),∀ hi:i<P.length,PMas P[i] p.1 p.2:=λi=>by
  by_cases hi:i<P.length
  ·obtain⟨W,S,h⟩:=Vk (h _ (zla hi));exact⟨(W,S),λ_=>h⟩
  ·exact⟨(0,λ_ _=>0),λh=>absurd h hi⟩
 exact⟨λi=>(Classical.choose (k i)).1,λi=>(Classical.choose (k i)).2,λi hi=>Classical.choose_spec (k i) hi⟩
def mR(f:Nat->Int):Nat->Int
 | 0=>0
 | k+1=>mR f k+f k
theorem oX{f:Nat->Int}{B:Nat}:∀ {k},(∀ i,i<k->(f i).natAbs<=B)->(mR f k).natAbs<=k*B
 | 0,_=>by simp[mR]
 | k+1,h=>by
  have ih:=oX (k:=k) λi hi=>h i (by omega)
  have:=h k (by omega)
  simp only[mR];rw[zZa,znc];omega
theorem zZ{f:Nat->Int}:∀ {k},(∀ i,i<k->0<f i)->0<=mR f k/\(0<k->0<mR f k)
 | 0,_=>by simp[mR]
 | k+1,h=>by
  have ih:=zZ (k:=k) λi hi=>h i (by omega)
  have:=h k (by omega)
  simp only[mR];omega
def mS(S:Nat->Nat->Nat->Int)(k:Nat):Nat->Nat->Int:=λa b=>mR (λi=>S i a b) k
def aM(S:Nat->Nat->Int)(m:Nat):Int:=if m/3=m%3 then -(S (m/3) (m%3))+(S 0 0+S 1 1+S 2 2) else -(S (m/3) (m%3))
def LG(A B:Nat->Nat->Int)(m:Nat):aM (λa b=>A a b+B a b) m=aM A m+aM B m:=by
 unfold aM;dsimp only;split<;>omega
def KQ{S:Nat->Nat->Int}{k:Nat}(h:∀ i j,(S i j).natAbs<=2^k)(m:Nat):(aM S m).natAbs<=2^(k+2):=by
 have a:=h (m/3) (m%3);have b:=h 0 0;have c:=h 1 1;have d:=h 2 2;rw[zab,show(2:Nat)^2=4 from rfl];generalize (2:Nat)^k=T at *;unfold aM;split<;>omega
structure BMas(b:Bdy)(W:Int)(S:Nat->Nat->Int):Prop where
 wle:W.natAbs<=2^87
 sle:∀ i k,(S i k).natAbs<=2^127
 pos:0<W
def NF{b:Bdy}(h:BOk b){W:Nat->Int}{S:Nat->Nat->Nat->Int}(hm:∀ i (hi:i<b.P.length),PMas b.P[i] (W i) (S i)):BMas b (mR W b.P.length) (mS S b.P.length):=by
 have hf:=h.few;have p3:∀ k:Nat,3*2^k<=2^(k+2):=λk=>by rw[zab,show(2:Nat)^2=4 from rfl];omega
 have kk:∀ k T:Nat,b.P.length*2^k<=2^(k+2):=λk _=>zCa (zya _ hf) (p3 k);refine⟨zCa (oX λi hi=>(hm i hi).wle) (kk 85 0),λa c=>zCa (oX λi hi=>(hm i hi).sle a c) (kk 125 0),(zZ λi hi=>(hm i hi).pos).2 h.one⟩
def UN(n:Nat){b:Bdy}(h:BOk b){W:Nat->Int}{S:Nat->Nat->Nat->Int}(hm:∀ i (hi:i<b.P.length),PMas b.P[i] (W i) (S i)):cA (n+11) 353 [eW b]=some (aj (mR W b.P.length)):=by
 have hf:=h.few;rw[WR];delta IJ qG qB qC qS qX qZ iL iR Jn;refine aa (Ak (n+8) (eO 0)) (aa (z:=.sl (b.P.map be)) rfl (aa (z:=b.P.map be) rfl ?_));have ws:∀ k,k<=b.P.length->(mR W k).natAbs<=2^87:=λk hk=>by
  refine zCa (oX λi hi=>(hm i (by omega)).wle) ?_
  rw[show(2:Nat)^87=4*2^85 from(zab 2 2 85).symm ▸ rfl];exact zya _ (by omega)
 refine ba (λi s=>s=[I (i:Int),aj (mR W i)]) b.P.length 0 (zga _) rfl (λi hi s hJ=>?_) (λs hJ=>?_)
 ·subst hJ;left;refine⟨_,?_,rfl⟩;have hp:=hm i hi;exact aa af (aa ae (aC (by show(i:Int)<((b.P.map be).length:Int);rw[bU];omega) (aa (z:=b.P.map be) rfl (aa (z:=i) (by rw[bU];exact ak hi) (aa (AJ hi) (aa (hp.c23 n) (aa (wM (n+6) (eS (by decide) (ws i (by omega))) (eS (by decide) hp.wle) (eS (k:=87) (by decide) (ws (i+1) (by omega)))) (aa (au (a:=i) (b:=1) (by omega)) rfl))))))))
 ·subst hJ;exact⟨_,aa af (aa ae (az (by show ¬ ((b.P.length:Int)<((b.P.map be).length:Int));rw[bU];omega) rfl)),rfl⟩
def JL{a W:Int}{p q:Nat}(ha:a.natAbs<=2^p)(hW:W.natAbs<=2^q)(h0:W≠0)(hp:p<=500)(hq:q<=500):Mb (some (a:Rat)) (some (W:Rat))=some (Rat.divInt a W):=by
 have e:Mb (some (a:Rat)) (some (W:Rat))=gr (some (a:Rat)) (nC (some (((W:Rat).den:Nat):Int)) (some (W:Rat).num)):=rfl;rw[e,Rat.num_intCast,Rat.den_intCast,xl h0];have f1:uT (a:Rat) p 0:=mf ha;have f2:uT (Rat.divInt ((1:Nat):Int) W) 0 q:=dU (by simp) hW h0
 rw[zr (f1.fitM f2 (by omega) (by omega))]
 congr 1;rw[show(a:Rat)=Rat.divInt a 1 from(qD a).symm,zTb];simp
def jQ(S:Nat->Nat->Int)(W m0:Int)(j:Nat):Rat:=Rat.divInt (aM S j*(6*m0)) (120*W)
def AQ{b:Bdy}(h:BOk b){W:Int}{S:Nat->Nat->Int}(hB:BMas b W S)(j:Nat):uT (jQ S W b.m0 j) 172 94:=by
 have hm0:=h.m0;have hm1:=h.m1;have hm2:=h.m2;refine dU (c9 (i:=129) (j:=43) (KQ hB.sle j) (by rw[show(2:Nat)^43=8796093022208 from rfl];omega) (by decide)) (c9 (i:=7) (j:=87) (by decide) hB.wle (by decide)) (by have:=hB.pos;omega)
def xN{S:Nat->Nat->Int}{k:Nat}(h:∀ i j,(S i j).natAbs<=2^k)(j:Nat):uT (Rat.divInt (aM S j) 120) (k+2) 7:=dU (KQ h j) (by decide) (by decide)
def yg{f:Nat->Rat}{p q:Nat}(h:∀ j,uT (f j) p q)(hp:p<=511)(hq:q<=511):MG λj=>some (f j):=λj _=>⟨cY ((h j).inR hp hq),rfl⟩
def UG(n:Nat){b:Bdy}(h:BOk b){W:Nat->Int}{S:Nat->Nat->Nat->Int}(hm:∀ i (hi:i<b.P.length),PMas b.P[i] (W i) (S i)) :
  cA (n+1035) 332 [eW b,dn (b.m0:Rat)]=some (eM λj=>some (jQ (mS S b.P.length) (mR W b.P.length) b.m0 j)):=by
 have hf:=h.few;have hone:=h.one;have hB:=NF h hm;have hm0:=h.m0;have hm1:=h.m1;have hm2:=h.m2;rw[WE];delta Iw qG qB qC qT qS qX qW qZ iL iR Jn;refine aa (z:=.sl (b.P.map be)) rfl (aa (z:=b.P.map be) rfl ?_);have sle:∀ k,k<=b.P.length->∀ a c,(mS S k a c).natAbs<=2^127:=λk hk a c=>by
  refine zCa (oX λi hi=>(hm i (by omega)).sle a c) ?_
  rw[show(2:Nat)^127=4*2^125 from(zab 2 2 125).symm ▸ rfl];exact zya _ (by omega)
 refine ba (λi s=>∃ M:D,s=[I (i:Int),I 0,I 0,.sl [],M]/\(0<i->M=eM λj=>some (Rat.divInt (aM (mS S i) j) 120))) b.P.length 0 (zga _) ⟨_,rfl,λh=>by omega⟩ (λi hi s hJ=>?_) (λs hJ=>?_)
 ·obtain⟨M,rfl,hM⟩:=hJ;left;have hp:=hm i hi;refine⟨[I ((i+1:Nat):Int),I 0,I 0,.sl [],eM λj=>some (Rat.divInt (aM (mS S (i+1)) j) 120)],?_,_,rfl,λ_=>rfl⟩;refine aa af (aa ae (aC (by show(i:Int)<((b.P.map be).length:Int);rw[bU];omega) (aa (z:=(0,[I 0,I 0,.sl [],eM λj=>some (Rat.divInt (aM (mS S (i+1)) j) 120)])) ?_ ?_)))
  ·refine aa (z:=b.P.map be) rfl (aa (z:=i) (by rw[bU];exact ak hi) (aa (AJ hi) ?_))
   have e1:mS S (i+1)=λa c=>mS S i a c+S i a c:=rfl;have h28:=hp.c28 (n+3);by_cases h0:i=0
   ·subst h0;refine aa (z:=true) rfl (jl (aa h28 ?_));have e2:mS S (0+1)=S 0:=by funext a c;simp[mS,mR]
    rw[e2];rfl
   ·refine aa (z:=false) ?_ ?_
    ·rw[show D.beq (List.getD [I (i:Int),I 0,I 0,.sl [],M] 0 (.bool false)) (D.int .i64 0)=decide ((i:Int)=0) from bF,decide_eq_false (by omega)];rfl
    rw[if_neg (by decide),hM (by omega)]
    have fa:∀ j,uT (Rat.divInt (aM (mS S i) j) 120) 129 7:=λj=>xN (sle i (by omega)) j
    have fb:∀ j,uT (Rat.divInt (aM (S i) j) 120) 127 7:=λj=>xN hp.sle j;have fs:∀ j,uT (Rat.divInt (aM (mS S (i+1)) j) 120) 129 7:=λj=>xN (sle (i+1) (by omega)) j
    have es:(λm=>eC (some (Rat.divInt (aM (mS S i) m) 120)) (some (Rat.divInt (aM (S i) m) 120)))=λj=>some (Rat.divInt (aM (mS S (i+1)) j) 120):=by
     funext j;rw[yh ((fa j).fitA (fb j)),wR (by decide),e1,LG]
    have h350:=NZ n (yg fa (by decide) (by decide)) (yg fb (by decide) (by decide)) (by rw[es];exact yg fs (by decide) (by decide))
    rw[es] at h350;refine aa h28 (aa h350 (aa (z:=eM λj=>some (Rat.divInt (aM (mS S (i+1)) j) 120)) rfl (aa (z:=I 0) rfl (aa (z:=false) rfl ?_))));rw[if_neg (by decide)]
    rfl
  ·exact(if_pos rfl).trans (aa (au (a:=i) (b:=1) (by omega)) rfl)
 ·obtain⟨M,rfl,hM⟩:=hJ;rw[hM hone];refine⟨_,aa af (aa ae (az (by show ¬ ((b.P.length:Int)<((b.P.map be).length:Int));rw[bU];omega) rfl)),?_⟩
  generalize hSW:mS S b.P.length=T at *;generalize hWW:mR W b.P.length=X at *;have m43:(6*b.m0).natAbs<=2^43:=by rw[show(2:Nat)^43=8796093022208 from rfl];omega
  have x0:X≠0:=by have:=hB.pos;omega
  have h174:=Mv (n+3) (a:=6) (b:=b.m0) (p:=3) (q:=41) (by decide) (by rw[show(2:Nat)^41=2199023255552 from rfl];omega) (by decide)
  have h353:=UN (n+1023) h hm;rw[hWW] at h353;have h352:=N3 (n+2) (a:=some ((6*b.m0:Int):Rat)) (b:=some (X:Rat)) (cY ((mf m43).inR (by decide) (by decide))) (cY ((mf hB.wle).inR (by decide) (by decide)))
  rw[JL m43 hB.wle x0 (by decide) (by decide)] at h352
  have fa:∀ j,uT (Rat.divInt (aM T j) 120) 129 7:=λj=>xN hB.sle j;have fx:uT (Rat.divInt (6*b.m0) X) 43 87:=dU m43 hB.wle x0;have es:(λm=>gr (some (Rat.divInt (aM T m) 120)) (some (Rat.divInt (6*b.m0) X)))=λj=>some (jQ T X b.m0 j):=by
   funext j;rw[zr ((fa j).fitM fx),zTb];rfl
  have h351:=N0 n (yg fa (by decide) (by decide)) (x:=some (Rat.divInt (6*b.m0) X)) (cY (fx.inR (by decide) (by decide))) rfl (by rw[es];exact yg (AQ h hB) (by decide) (by decide))
  rw[es] at h351;refine(if_neg (show ¬ ((1:Nat)=0) by decide)).trans ?_
  exact aa (Hd (n+2) (eO 6)) (aa h174 (aa h353 (aa (NM (n+3) (eS (k:=87) (by decide) hB.wle)) (aa h352 (aa h351 (aa (z:=eM λj=>some (jQ T X b.m0 j)) rfl (aa (z:=I 0) rfl rfl)))))))
end Sy
end
noncomputable section
namespace Sy
open Go Go.Proofs Geo
def ND(l:List D):Bd:=λ(v1:List D)=>
 Option.bind (D.bin .add (gx v1 1) (D.int .i64 1)) λx2=>Option.bind (D.asSl (.sl l)) λl3=>Option.bind (D.bin .lss x2 (D.int .i64 (l3.length))) λx4=>Option.bind (D.truth x4) λb5=>
 if b5 then(Option.bind (D.asSl (.sl l)) λl6=>Option.bind (D.idx (gx v1 1) (l6.length)) λi7=>Option.bind (l6[i7]?) λx8=>Option.bind (D.bin .add (gx v1 1) (D.int .i64 1)) λx9=>
  Option.bind (D.asSl (.sl l)) λl10=>Option.bind (D.idx x9 (l10.length)) λi11=>Option.bind (l10[i11]?) λx12=>Option.bind (D.bin .mul x8 x12) λx13=>Option.bind (D.bin .add (gx v1 0) x13) λx14=>
  Option.bind (D.bin .add (gx v1 1) (D.int .i64 2)) λx15=>some (Sum.inl [x14,x15])) else(some (Sum.inr (0,[(gx v1 0)])))
def fT{l:List D}(k:Nat){s a b t:Int}(hl:l.length<=100)(ha:l[k]?=some (I a))(hb:l[k+1]?=some (I b))(h1:inR (a*b))(h2:inR (s+a*b))(ht:s+a*b=t):ND l [I s,I (k:Int)]=some (.inl [I t,I ((k+2:Nat):Int)]):=by
 have k1:=(zna.1 hb).1;subst ht;exact aa (au (a:=k) (b:=1) (by omega)) (aa (z:=l) rfl (aa af (aa ae (aC (by show((k+1:Nat):Int)<(l.length:Int);omega) (aa (z:=l) rfl (aa (ak (by omega)) (aa ha (aa (au (a:=k) (b:=1) (by omega)) (aa (z:=l) rfl (aa (ak k1) (aa hb (aa (bY h1) (aa (av h2) (aa (au (a:=k) (b:=2) (by omega)) rfl))))))))))))))
def xO{l:List D}(k:Nat){s:Int}(hl:l.length<=100)(hk:l.length=k):ND l [I s,I (k:Int)]=some (.inr (0,[I s])):=
 aa (au (a:=k) (b:=1) (by omega)) (aa (z:=l) rfl (aa af (aa ae (az (by show ¬ (((k+1:Nat):Int)<(l.length:Int));omega) rfl))))
def pw(n:Nat){a b c d:Int}(h1:inR (a*b))(h2:inR (c*d))(h3:inR (a*b+c*d)):cA (n+1) 394 [.sl [I a,I b,I c,I d]]=some (I (a*b+c*d)):=by
 rw[MS];delta Db qB qX qL qZ iL iR Jn;exact bn (fT 0 (l:=[I a,I b,I c,I d]) (s:=0) (t:=a*b) (by simp) rfl rfl h1 (by rw[ztc];exact h1) (ztc _)) (bn (fT 2 (by simp) rfl rfl h2 h3 rfl) (fc (xO 4 (by simp) rfl) rfl))
def L5(n:Nat){a b c d e f:Int}(h1:inR (a*b))(h2:inR (c*d))(h3:inR (a*b+c*d))(h4:inR (e*f))(h5:inR (a*b+c*d+e*f)):cA (n+1) 394 [.sl [I a,I b,I c,I d,I e,I f]]=some (I (a*b+c*d+e*f)):=by
 rw[MS];delta Db qB qX qL qZ iL iR Jn;exact bn (fT 0 (l:=[I a,I b,I c,I d,I e,I f]) (s:=0) (t:=a*b) (by simp) rfl rfl h1 (by rw[ztc];exact h1) (ztc _)) (bn (fT 2 (by simp) rfl rfl h2 h3 rfl) (bn (fT 4 (by simp) rfl rfl h4 h5 rfl) (fc (xO 6 (by simp) rfl) rfl)))
def wL(n:Nat){a b c d e f g h:Int}(h1:inR (a*b))(h2:inR (c*d))(h3:inR (a*b+c*d))(h4:inR (e*f))(h5:inR (a*b+c*d+e*f))(h6:inR (g*h))(h7:inR (a*b+c*d+e*f+g*h)) :
  cA (n+1) 394 [.sl [I a,I b,I c,I d,I e,I f,I g,I h]]=some (I (a*b+c*d+e*f+g*h)):=by
 rw[MS];delta Db qB qX qL qZ iL iR Jn;exact bn (fT 0 (l:=[I a,I b,I c,I d,I e,I f,I g,I h]) (s:=0) (t:=a*b) (by simp) rfl rfl h1 (by rw[ztc];exact h1) (ztc _)) (bn (fT 2 (by simp) rfl rfl h2 h3 rfl) (bn (fT 4 (by simp) rfl rfl h4 h5 rfl) (bn (fT 6 (by simp) rfl rfl h6 h7 rfl) (fc (xO 8 (by simp) rfl) rfl))))
def kz(q:Nat->Int):Nat->Int
 | 0=>q 0*q 0+q 1*q 1-q 2*q 2-q 3*q 3
 | 1=>2*(q 1*q 2-q 0*q 3)
 | 2=>2*(q 1*q 3+q 0*q 2)
 | 3=>2*(q 1*q 2+q 0*q 3)
 | 4=>q 0*q 0-q 1*q 1+q 2*q 2-q 3*q 3
 | 5=>2*(q 2*q 3-q 0*q 1)
 | 6=>2*(q 1*q 3-q 0*q 2)
 | 7=>2*(q 2*q 3+q 0*q 1)
 | _=>q 0*q 0-q 1*q 1-q 2*q 2+q 3*q 3
def Lb(m:Nat->Int):D:=.st [I (m 0),I (m 1),I (m 2),I (m 3),I (m 4),I (m 5),I (m 6),I (m 7),I (m 8)]
def AK{k:Nat}(h:k<9)(m:Nat->Int):D.get (Lb m) [k]=some (I (m k)):=by
 match k,h with
 | 0,_=>rfl
 | 1,_=>rfl
 | 2,_=>rfl
 | 3,_=>rfl
 | 4,_=>rfl
 | 5,_=>rfl
 | 6,_=>rfl
 | 7,_=>rfl
 | 8,_=>rfl
 | k+9,h=>omega
def EB(q:Nat->Int):Prop:=∀ i,i<4->(q i).natAbs<=64
def qq{q:Nat->Int}(h:EB q){i j:Nat}(hi:i<4)(hj:j<4):-4096<=q i*q j/\q i*q j<=4096:=by
 have:(q i*q j).natAbs<=64*64:=by rw[zFa];exact zVa (h i hi) (h j hj)
 omega
def aH{x:Int}(h:-4000000000<=x/\x<=4000000000):inR x:=by simp only[inR];omega
def kA{q:Nat->Int}(h:EB q)(k:Nat):-16384<=kz q k/\kz q k<=16384:=by
 have a00:=qq h (i:=0) (j:=0) (by decide) (by decide);have a11:=qq h (i:=1) (j:=1) (by decide) (by decide);have a22:=qq h (i:=2) (j:=2) (by decide) (by decide);have a33:=qq h (i:=3) (j:=3) (by decide) (by decide)
 have a01:=qq h (i:=0) (j:=1) (by decide) (by decide);have a02:=qq h (i:=0) (j:=2) (by decide) (by decide);have a03:=qq h (i:=0) (j:=3) (by decide) (by decide)
 have a12:=qq h (i:=1) (j:=2) (by decide) (by decide);have a13:=qq h (i:=1) (j:=3) (by decide) (by decide);have a23:=qq h (i:=2) (j:=3) (by decide) (by decide)
 unfold kz;split<;>omega
def yl{a:Int}(h:inR (-a)):D.un .neg (I a)=some (I (-a)):=by
 simp only[D.un,Int.zero_sub];rw[g7 h]
def uW{a b:Int}(hb:2*a=b)(h:inR b):D.bin .mul (D.int .i64 2) (I a)=some (I b):=by
 subst hb;exact bY h
def U3(n:Nat){q:Nat->Int}(h:EB q):cA (n+2) 393 [pH q]=some (Lb (kz q)):=by
 have a00:=qq h (i:=0) (j:=0) (by decide) (by decide);have a11:=qq h (i:=1) (j:=1) (by decide) (by decide);have a22:=qq h (i:=2) (j:=2) (by decide) (by decide);have a33:=qq h (i:=3) (j:=3) (by decide) (by decide)
 have a01:=qq h (i:=0) (j:=1) (by decide) (by decide);have a02:=qq h (i:=0) (j:=2) (by decide) (by decide);have a03:=qq h (i:=0) (j:=3) (by decide) (by decide)
 have a12:=qq h (i:=1) (j:=2) (by decide) (by decide);have a13:=qq h (i:=1) (j:=3) (by decide) (by decide);have a23:=qq h (i:=2) (j:=3) (by decide) (by decide)
 have h0:=h 0 (by decide);have h1:=h 1 (by decide);have h2:=h 2 (by decide);have h3:=h 3 (by decide)
 have n0:D.un .neg (I (q 0))=some (I (-(q 0))):=yl (aH (by omega))
 have n1:D.un .neg (I (q 1))=some (I (-(q 1))):=yl (aH (by omega))
 have n2:D.un .neg (I (q 2))=some (I (-(q 2))):=yl (aH (by omega))
 have n3:D.un .neg (I (q 3))=some (I (-(q 3))):=yl (aH (by omega))
 have m:∀ a b:Int,-a*b=-(a*b):=λa b=>Int.neg_mul a b;rw[Xh];delta I8 qG qB Jn;refine aa (z:=I (q 0)) rfl (aa (z:=I (q 1)) rfl (aa (z:=I (q 2)) rfl (aa (z:=I (q 3)) rfl (aa n2 (aa n3 ?_)))));refine aa (wL n (aH (by omega)) (aH (by omega)) (aH (by omega)) (aH (by rw[m];omega)) (aH (by rw[m];omega)) (aH (by rw[m];omega)) (aH (by rw[m,m];omega))) ?_
 refine aa n0 (aa (pw n (aH (by omega)) (aH (by rw[m];omega)) (aH (by rw[m];omega))) (aa (uW (b:=kz q 1) (by show _=2*(q 1*q 2-q 0*q 3);rw[m];omega) (aH (by have:=kA h 1;omega))) ?_))
 refine aa (pw n (aH (by omega)) (aH (by omega)) (aH (by omega))) (aa (uW (b:=kz q 2) rfl (aH (by have:=kA h 2;omega))) ?_)
 refine aa (pw n (aH (by omega)) (aH (by omega)) (aH (by omega))) (aa (uW (b:=kz q 3) rfl (aH (by have:=kA h 3;omega))) ?_)
 refine aa n1 (aa n3 (aa (wL n (aH (by omega)) (aH (by rw[m];omega)) (aH (by rw[m];omega)) (aH (by omega)) (aH (by rw[m];omega)) (aH (by rw[m];omega)) (aH (by rw[m,m];omega))) ?_))
 refine aa n0 (aa (pw n (aH (by omega)) (aH (by rw[m];omega)) (aH (by rw[m];omega))) (aa (uW (b:=kz q 5) (by show _=2*(q 2*q 3-q 0*q 1);rw[m];omega) (aH (by have:=kA h 5;omega))) ?_))
 refine aa n0 (aa (pw n (aH (by omega)) (aH (by rw[m];omega)) (aH (by rw[m];omega))) (aa (uW (b:=kz q 6) (by show _=2*(q 1*q 3-q 0*q 2);rw[m];omega) (aH (by have:=kA h 6;omega))) ?_))
 refine aa (pw n (aH (by omega)) (aH (by omega)) (aH (by omega))) (aa (uW (b:=kz q 7) rfl (aH (by have:=kA h 7;omega))) ?_)
 refine aa n1 (aa n2 (aa (wL n (aH (by omega)) (aH (by rw[m];omega)) (aH (by rw[m];omega)) (aH (by rw[m];omega)) (aH (by rw[m,m];omega)) (aH (by omega)) (aH (by rw[m,m];omega))) ?_))
 have e0:q 0*q 0+q 1*q 1+-(q 2)*q 2+-(q 3)*q 3=kz q 0:=by show _=q 0*q 0+q 1*q 1-q 2*q 2-q 3*q 3;rw[m,m];omega
 have e4:q 0*q 0+-(q 1)*q 1+q 2*q 2+-(q 3)*q 3=kz q 4:=by show _=q 0*q 0-q 1*q 1+q 2*q 2-q 3*q 3;rw[m,m];omega
 have e8:q 0*q 0+-(q 1)*q 1+-(q 2)*q 2+q 3*q 3=kz q 8:=by show _=q 0*q 0-q 1*q 1-q 2*q 2+q 3*q 3;rw[m,m];omega
 rw[e0,e4,e8];rfl
def o9(q:Nat->Int)(v:V)(i:Nat):Int:=kz q (3*i)*v.x+kz q (3*i+1)*v.y+kz q (3*i+2)*v.z
def Bq(q:Nat->Int):Int:=q 0*q 0+q 1*q 1+q 2*q 2+q 3*q 3
def vN{q:Nat->Int}(h:EB q)(k:Nat){x:Int}(hx:x.natAbs<=4096):-67108864<=kz q k*x/\kz q k*x<=67108864:=by
 have:=kA h k;have:(kz q k*x).natAbs<=16384*4096:=by rw[zFa];exact zVa (by omega) hx
 omega
def Ae{q:Nat->Int}(h:EB q){v:V}(hv:bd 4096 v)(i:Nat):-201326592<=o9 q v i/\o9 q v i<=201326592:=by
 obtain⟨v1,v2,v3⟩:=pq (k:=4096) hv;have a:=vN h (3*i) v1;have b:=vN h (3*i+1) v2;have c:=vN h (3*i+2) v3;unfold o9;omega
def CU{q:Nat->Int}(h:EB q)(h0:∃ i,i<4/\q i≠0):0<Bq q/\Bq q<=16384:=by
 have a00:=qq h (i:=0) (j:=0) (by decide) (by decide);have a11:=qq h (i:=1) (j:=1) (by decide) (by decide);have a22:=qq h (i:=2) (j:=2) (by decide) (by decide);have a33:=qq h (i:=3) (j:=3) (by decide) (by decide)
 have p0:=lW (q 0);have p1:=lW (q 1);have p2:=lW (q 2);have p3:=lW (q 3);have pos:∀ x:Int,x≠0->0<x*x:=λx hx=>by
  have:=lW x;rcases zsb this with h|h
  ·exact h
  ·rcases zJc.1 h.symm with h|h<;>exact absurd h hx
 obtain⟨i,hi,hq⟩:=h0;have hp:=pos _ hq;unfold Bq;refine⟨?_,by omega⟩
 match i,hi with
 | 0,_=>omega
 | 1,_=>omega
 | 2,_=>omega
 | 3,_=>omega
 | k+4,h=>omega
def Fp(f:Nat->Int):D:=.st [I (f 0),I (f 1),I (f 2)]
def Mo{k:Nat}(h:k<9):D.idx (I (k:Int)) 9=some k:=ak h
def U2(n:Nat){q:Nat->Int}(h:EB q){v:V}(hv:bd 4096 v):cA (n+3) 386 [pH q,ag v]=some (Fp (o9 q v)):=by
 obtain⟨v1,v2,v3⟩:=pq (k:=4096) hv;rw[Xd];delta I4 qG qB qC qJ qZ iL iR Jn;refine aa (U3 n h) ?_;refine CB (l0:=[I 0,I 0,I 0]) (λi=>I (o9 q v i)) rfl (λi hi l hl hj=>?_) (λl=>aa af (aa ae (az (by decide) rfl))) rfl
 have a:=vN h (3*i) v1;have b:=vN h (3*i+1) v2;have c:=vN h (3*i+2) v3;have k0:D.bin .mul (D.int .i64 3) (I (i:Int))=some (I ((3*i:Nat):Int)):=lj (a:=3) (b:=i) (by omega)
 have k1:D.bin .add (I ((3*i:Nat):Int)) (D.int .i64 1)=some (I ((3*i+1:Nat):Int)):=au (a:=3*i) (b:=1) (by omega)
 have k2:D.bin .add (I ((3*i:Nat):Int)) (D.int .i64 2)=some (I ((3*i+2:Nat):Int)):=au (a:=3*i) (b:=2) (by omega)
 refine aa af (aa ae (aC (by show(i:Int)<3;omega) ?_))
 refine aa k0 (aa (Mo (by omega)) (aa (AK (by omega) _) (aa (z:=I v.x) rfl ?_)))
 refine aa k0 (aa k1 (aa (Mo (by omega)) (aa (AK (by omega) _) (aa (z:=I v.y) rfl ?_))))
 refine aa k0 (aa k2 (aa (Mo (by omega)) (aa (AK (by omega) _) (aa (z:=I v.z) rfl ?_))))
 refine aa (L5 (n+1) (aH (by omega)) (aH (by omega)) (aH (by omega)) (aH (by omega)) (aH (by omega))) ?_
 exact aa (ak hi) (aa (xH (by omega)) (aa (au (a:=i) (b:=1) (by omega)) rfl))
def U0(n:Nat){q:Nat->Int}(h:EB q):cA (n+3) 385 [pH q]=some (I (Bq q)):=by
 have a00:=qq h (i:=0) (j:=0) (by decide) (by decide);have a11:=qq h (i:=1) (j:=1) (by decide) (by decide);have a22:=qq h (i:=2) (j:=2) (by decide) (by decide);have a33:=qq h (i:=3) (j:=3) (by decide) (by decide)
 rw[Xc];unfold I3;refine aa (z:=I (Bq q)) ?_ rfl;rw[Xg];delta I7 qG;refine aa (z:=I (q 0)) rfl (aa (z:=I (q 0)) rfl (aa (z:=I (q 1)) rfl (aa (z:=I (q 1)) rfl (aa (z:=I (q 2)) rfl (aa (z:=I (q 2)) rfl (aa (z:=I (q 3)) rfl (aa (z:=I (q 3)) rfl ?_)))))));exact aa (wL n (aH (by omega)) (aH (by omega)) (aH (by omega)) (aH (by omega)) (aH (by omega)) (aH (by omega)) (aH (by omega))) rfl
def GA(q:Nat->Int)(v:V):WV:=λi=>some (Rat.divInt (o9 q v i) (Bq q))
def Km{q:Nat->Int}(h:EB q)(h0:∃ i,i<4/\q i≠0){v:V}(hv:bd 4096 v):Hc (GA q v):=λi=>by
 have a:=Ae h hv i;have b:=CU h h0;exact cY (fg (ce (aH (by omega))) (ce (aH (by omega))) (by omega))
def UV(n:Nat){q:Nat->Int}(h:EB q)(h0:∃ i,i<4/\q i≠0){v:V}(hv:bd 4096 v):cA (n+1032) 372 [pH q,ag v]=some (jk (GA q v)):=by
 have b:=CU h h0;rw[W4];delta IV qB qC qZ iL iR Jn;refine aa (U0 (n+1028) h) (aa (U2 (n+1028) h hv) ?_);refine CB (l0:=[_,_,_]) (λi=>bq (GA q v i)) rfl (λi hi l hl hj=>?_) (λl=>aa af (aa ae (az (by decide) rfl))) rfl
 have a:=Ae h hv i;have hg:D.fld (Fp (o9 q v)) i=some (I (o9 q v i)):=by
  have:i=0\/i=1\/i=2:=by omega
  rcases this with rfl|rfl|rfl<;>rfl
 have h333:cA (n+1031) 333 [I (o9 q v i),I (Bq q)]=some (bq (GA q v i)):=by
  rw[OX];unfold EO;exact aa (Ak (n+1028) (aH (by omega))) (aa (Ak (n+1028) (aH (by omega))) (aa (JE n (ce (aH (by omega))) (ce (aH (by omega))) (by omega)) rfl))
 exact aa af (aa ae (aC (by show(i:Int)<3;omega) (aa (ak hi) (aa hg (aa h333 (aa (ak hi) (aa (xH (by omega)) (aa (au (a:=i) (b:=1) (by omega)) rfl))))))))
def Jl(x:V)(q:Nat->Int)(v:V):WV:=CO (yb x) (GA q v)
def UP(n:Nat){x:V}{q:Nat->Int}(hx:∀ i,inR (dY x i))(h:EB q)(h0:∃ i,i<4/\q i≠0){v:V}(hv:bd 4096 v):cA (n+1034) 359 [Cc x q,ag v]=some (jk (Jl x q v)):=by
 rw[WT];delta IL qG;exact aa (z:=ag x) rfl (aa (BY n hx) (aa (z:=pH q) rfl (aa (UV (n+1) h h0 hv) (aa (N5 (n+1) (uk hx) (Km h h0 hv)) rfl))))
end Sy
end
noncomputable section
namespace Sy
open Go Go.Proofs Geo
def FZ(f:Nat->Option Rat)(t:WV):WV:=λi=>tq (λj=>f (3*i+j)) t
def AS(m0:Int)(f:Nat->Option Rat)(v w:V):Option Rat:=
 eC (gr (gr (some (m0:Rat)) (tq (yb v) (yb v))) (some (Rat.divInt 1 131072))) (gr (tq (yb w) (FZ f (yb w))) (some (Rat.divInt 1 2097152)))
def Ko(f:Nat->Option Rat){k:Nat}(h:k<3):D.cut (nF f 9) (3*k) (3*k+3)=some [bq (f (3*k)),bq (f (3*k+1)),bq (f (3*k+2))]:=by
 have:k=0\/k=1\/k=2:=by omega
 rcases this with rfl|rfl|rfl<;>rfl
def FA(n:Nat){d:Int}(hd:inR d)(h0:d≠0):cA (n+1031) 333 [I 1,I d]=some (dn (Rat.divInt 1 d)):=by
 rw[OX];unfold EO;exact aa (Ak (n+1028) (eO 1)) (aa (Ak (n+1028) hd) (aa (JE n (ce (eO 1)) (ce hd) h0) rfl))
def Ck{d:Int}(hd:inR d)(h0:d≠0):OW (some (Rat.divInt 1 d)):=cY (fg (ce (eO 1)) (ce hd) h0)
def NX(n:Nat){l:List (Option Rat)}(hl:l.length<=1000000)(h:∀ x∈l,OW x):cA (n+1033) 334 [.sl (l.map bq)]=some (bq (l.foldl eC (some 0))):=by
 have ll:(l.map bq).length=l.length:=zoa ..;have z:OW (some (0:Rat)):=cY (yf (ce (eO 0)));rw[WF];delta Ix qB qC qS qX qZ iL iR Jn;refine aa (Hd n (eO 0)) (aa (z:=l.map bq) rfl ?_);refine ba (λi s=>s=[I (i:Int),bq ((l.take i).foldl eC (some 0))]/\OW ((l.take i).foldl eC (some 0))) l.length 0 (zga _) ⟨rfl,z⟩ (λi hi s hJ=>?_) (λs hJ=>?_)
 ·obtain⟨rfl,ho⟩:=hJ;left;have e:(l.take (i+1)).foldl eC (some 0)=eC ((l.take i).foldl eC (some 0)) l[i]:=by
   rw[zka hi,zqd];rfl
  have g:(l.map bq)[i]?=some (bq l[i]):=by simp[hi]
  refine⟨_,?_,rfl,by rw[e];exact jc _ _⟩
  rw[e];exact aa af (aa ae (aC (by show(i:Int)<((l.map bq).length:Int);rw[ll];omega) (aa (z:=l.map bq) rfl (aa (z:=i) (by rw[ll];exact ak hi) (aa g (aa (yr (n+1) ho (h _ (zla hi))) (aa (au (a:=i) (b:=1) (by omega)) rfl)))))))
 ·obtain⟨rfl,ho⟩:=hJ;rw[zIa] at *;exact⟨_,aa af (aa ae (az (by show ¬ ((l.length:Int)<((l.map bq).length:Int));rw[ll];omega) rfl)),rfl⟩
def MG.row{f:Nat->Option Rat}(h:∀ j,OW (f j))(i:Nat):Hc (λj=>f (3*i+j)):=λj=>h _
def NV(n:Nat){b:Bdy}{f:Nat->Option Rat}{v w:V}(hm:inR b.m0)(h332:cA (n+1035) 332 [eW b,dn (b.m0:Rat)]=some (eM f))(hf:∀ j,OW (f j))(hv:∀ i,inR (dY v i))(hw:∀ i,inR (dY w i)) :
  cA (n+1036) 309 [eW b,ag v,ag w]=some (bq (AS b.m0 f v w)):=by
 rw[Wv];delta Im qG qB qC qT qS qP qZ iL iR Jn;refine aa (z:=I b.m0) rfl (aa (Hd (n+3) hm) (aa h332 (aa (z:=.sl (nF f 9)) rfl (aa (z:=nF f 9) rfl (aa (z:=false) (by rw[kC];rfl) ?_)))))
 rw[if_neg (by decide)]
 refine aa (BY (n+2) hw) ?_;refine CB (l0:=[_,_,_]) (λi=>bq (FZ f (yb w) i)) rfl (λi hi l hl hj=>?_) (λl=>aa af (aa ae (az (by decide) rfl))) ?_
 ·have k0:D.bin .mul (D.int .i64 3) (I (i:Int))=some (I ((3*i:Nat):Int)):=lj (a:=3) (b:=i) (by omega)
  refine aa af (aa ae (aC (by show(i:Int)<3;omega) (aa (z:=.sl (nF f 9)) rfl (aa k0 (aa k0 (aa (au (a:=3*i) (b:=3) (by omega)) (aa (z:=nF f 9) rfl (aa (rU (3*i)) (aa (rU (3*i+3)) (aa (Ko f hi) ?_))))))))))
  refine(if_pos rfl).trans ?_;have h134:cA (n+1035) 134 [jk (λj=>f (3*i+j)),jk (yb w)]=some (bq (FZ f (yb w) i)):=BX (n+2) (MG.row hf i) (uk hw);exact aa h134 (aa (ak hi) (aa (xH (by omega)) (aa (au (a:=i) (b:=1) (by omega)) rfl)))
 ·have hvv:=uk hv;have hww:=uk hw;have ho:Hc (FZ f (yb w)):=λi=>rS _ _;refine aa (BY (n+2) hv) (aa (BX (n+2) hvv hvv) (aa (uX (n+4) (a:=some (b.m0:Rat)) (cY (yf (ce hm))) (rS _ _)) (aa (FA (n+4) (by simp only[inR];omega) (by decide)) ?_)))
  refine aa (uX (n+4) (b:=some (Rat.divInt 1 131072)) (oL _ _) (Ck (by simp only[inR];omega) (by decide))) ?_
  refine aa (BX (n+2) hww ho) (aa (FA (n+4) (by simp only[inR];omega) (by decide)) (aa (uX (n+4) (b:=some (Rat.divInt 1 2097152)) (rS _ _) (Ck (by simp only[inR];omega) (by decide))) ?_))
  have h334:=NX (n+2) (l:=[gr (gr (some (b.m0:Rat)) (tq (yb v) (yb v))) (some (Rat.divInt 1 131072)),gr (tq (yb w) (FZ f (yb w))) (some (Rat.divInt 1 2097152))]) (by simp) (λx hx=>by
   simp at hx;rcases hx with rfl|rfl<;>exact oL _ _)
  refine aa h334 ?_;show some (bq (eC (eC (some 0) _) _))=_;rw[wB (oL _ _)];rfl
def Ah{v:V}(h:gc v=true)(i:Nat):inR (dY v i):=by
 have:=GZ h;rw[show(2:Nat)^40=1099511627776 from rfl] at this;exact tj (by simp only[inR];omega) (by simp only[inR];omega) (by simp only[inR];omega) i
def Mw{b:Bdy}(h:BOk b):∃ f:Nat->Option Rat,(∀ j,OW (f j))/\∀ v w,gc v=true->gc w=true->∀ n,cA (n+1036) 309 [eW b,ag v,ag w]=some (bq (AS b.m0 f v w)):=by
 obtain⟨W,S,hm⟩:=MA h.hul;have hB:=NF h hm;have hm0:=h.m0;have hm1:=h.m1;have hm2:=h.m2;exact⟨_,λj=>cY ((AQ h hB j).inR (by decide) (by decide)),λv w hv hw n=>NV n (by simp only[inR];omega) (UG n h hm) (λj=>cY ((AQ h hB j).inR (by decide) (by decide))) (Ah hv) (Ah hw)⟩
def J4(m0:Int)(f:Nat->Option Rat)(v w:V):OW (AS m0 f v w):=jc _ _
def ZN:Option Rat->Int
 | some q=>sg q.num
 | none=>0
def UI(n:Nat){a:Option Rat}(h:OW a):cA (n+1031) 342 [bq a]=some (I (ZN a)):=by
 rw[WJ];delta IB qG qN Jn;cases a with
 | none=>exact aa (io n h) (aa bg (aa (z:=true) rfl (jl rfl)))
 | some q=>
  refine aa (io n h) (aa bg (aa (z:=false) rfl ?_));rw[if_neg (by decide)]
  exact aa (z:=aj q.num) rfl (aa (Di (n+1027) h.some.1) rfl)
def fm(l:List Bool):D:=.sl (l.map D.bool)
def eh(l:List Bool):(l.map D.bool).length=l.length:=zoa ..
def vn{l:List Bool}{i:Nat}(h:i<l.length):(l.map D.bool)[i]?=some (.bool l[i]):=by simp[h]
def L3(n:Nat)(a b:List Bool)(ha:a.length<=9223372036854775807):cA (n+1) 341 [fm a,fm b]=some (.bool (decide (a=b))):=by
 rw[WI];delta IA qB qC qT qS qX qZ iL iR Jn;refine aa (z:=a.map D.bool) rfl (aa (z:=b.map D.bool) rfl (aa (z:=!decide ((a.length:Int)=(b.length:Int))) (by rw[eh,eh,show D.beq (D.int .i64 (a.length:Int)) (D.int .i64 (b.length:Int))=_ from bF];rfl) ?_))
 by_cases hl:a.length=b.length
 ·rw[decide_eq_true (show(a.length:Int)=(b.length:Int) by omega)]
  rw[if_neg (by decide)]
  refine aa (z:=a.map D.bool) rfl ?_;refine ba (λi s=>s=[I (i:Int)]/\a.take i=b.take i) a.length 0 (zga _) ⟨rfl,by simp⟩ (λi hi s hJ=>?_) (λs hJ=>?_)
  ·obtain⟨rfl,hJ⟩:=hJ;have hi':i<b.length:=by omega
   have hh:∀ {X:Sum (List D) (Nat×List D)},(Option.bind (D.truth (D.bool (!(D.beq (.bool a[i]) (.bool b[i]))))) λb14=>if b14 then(some (Sum.inr (0,[(D.bool false)]))) else(Option.bind (D.bin .add (List.getD [I (i:Int)] 0 (.bool false)) (D.int .i64 1)) λx15=>some (Sum.inl [x15])))=some X ->
     (Option.bind (D.bin .lss (List.getD [I (i:Int)] 0 (.bool false)) (D.int .i64 ((a.map D.bool).length))) λx6=>Option.bind (D.truth x6) λb7=>if b7 then(Option.bind (D.asSl (fm a)) λl8=>Option.bind (D.idx (List.getD [I (i:Int)] 0 (.bool false)) (l8.length)) λi9=>Option.bind (l8[i9]?) λx10=>
      Option.bind (D.asSl (fm b)) λl11=>Option.bind (D.idx (List.getD [I (i:Int)] 0 (.bool false)) (l11.length)) λtg=>Option.bind (l11[tg]?) λx13=>Option.bind (D.truth (D.bool (!(D.beq x10 x13)))) λb14=>if b14 then(some (Sum.inr (0,[(D.bool false)]))) else(Option.bind (D.bin .add (List.getD [I (i:Int)] 0 (.bool false)) (D.int .i64 1)) λx15=>some (Sum.inl [x15]))) else(some (Sum.inr (1,[]))))=some X:=λh=>
    aa af (aa ae (aC (by show(i:Int)<((a.map D.bool).length:Int);rw[eh];omega) (aa (z:=a.map D.bool) rfl (aa (z:=i) (by rw[eh];exact ak hi) (aa (vn hi) (aa (z:=b.map D.bool) rfl (aa (z:=i) (by rw[eh];exact ak hi') (aa (vn hi') h))))))))
   by_cases he:a[i]=b[i]
   ·left;refine⟨[I ((i+1:Nat):Int)],hh (aa (z:=false) ?_ ?_),rfl,?_⟩
    ·rw[he];cases b[i]<;>rfl
    ·rw[if_neg (by decide)];exact aa (au (a:=i) (b:=1) (by omega)) rfl
    ·rw[zka hi,zka hi',hJ,he]
   ·right;refine⟨(0,[.bool false]),hh (aa (z:=true) ?_ (jl rfl)),?_⟩
    ·cases h1:a[i]<;>cases h2:b[i]<;>first|rfl|exact absurd (h1.trans h2.symm) he
    ·rw[decide_eq_false (λe=>he (by subst e;rfl))];rfl
  ·obtain⟨rfl,hJ⟩:=hJ;rw[zIa,hl,zIa] at hJ;refine⟨(1,[]),aa af (aa ae (az (by show ¬ ((a.length:Int)<((a.map D.bool).length:Int));rw[eh];omega) rfl)),?_⟩
   rw[decide_eq_true hJ];rfl
 ·rw[decide_eq_false (show ¬ (a.length:Int)=(b.length:Int) by omega),decide_eq_false (λe=>hl (by rw[e]))]
  rfl
end Sy
end
end Go.Proofs.YtpahompifldeeaaGreat
