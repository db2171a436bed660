/- Part 14 of the proof that For every valid body with few parts -/
import Derived.Test.YtpahompifldeeaaGreatQuads02
import Derived.Test.YtpahompifldeeaaGreatQuads09
import Derived.Test.YtpahompifldeeaaGreatQuads13
set_option linter.unusedVariables false
set_option linter.unusedSimpArgs false
set_option linter.unnecessarySimpa false
set_option linter.defProp false
set_option maxRecDepth 20000
namespace Go.Proofs.YtpahompifldeeaaGreat
noncomputable section
namespace Sy
open Go Go.Proofs Geo
def IV(n:Nat)(L:FL)(f:(V×Int)×List Nat)(c1 c2:D){P:D}(hP:li f.1 f.2=.st [af f.1.1,I f.1.2,P])(hL:L.length<=3000000):IU aT (cA (n+1)) (.sl (aq L)) c1 c2 (af f.1.1) (I f.1.2) P=some (0,[.sl (aq (gh f L)),c1,c2]):=by
 delta IU qB qT qN qX qL qV qW qZ iL iR Jn
 have app:∀ (o:FL) (x:(V×Int)×List Nat),aq o++[li x.1 x.2]=aq (o++[x]):=λo x=>by simp[aq]
 refine bY (λi s=>∃ (out:FL) (put:Bool),s=[.sl (aq L),.sl (aq out),.bool put,I (i:Int),c1,c2,af f.1.1,af f.1.1,I f.1.2,P]/\out.length<=2*i/\(put=false->gh f L=out++gh f (L.drop i))/\(put=true->gh f L=out++L.drop i)) L.length 0 (zia _) ⟨[],false,rfl,by simp,by simp,by simp⟩ (λi hi s hJ=>?_) (λs hJ=>?_)
 ·obtain⟨out,put,rfl,hol,h1,h2⟩:=hJ;left;have hd:L.drop i=L[i]::L.drop (i+1):=zkb hi;have hc:=Ku n f.1.1 L[i].1.1;obtain⟨o,p,he,ho,q1,q2⟩:∃ o p,(if put=false/\aF f.1.1 L[i].1.1 then(out++[f],true) else(out,put))=(o,p)/\o.length<=2*i+1/\(p=false->gh f L=o++L[i]::gh f (L.drop (i+1)))/\(p=true->gh f L=o++L[i]::L.drop (i+1)):=by
   by_cases hput:put=false/\aF f.1.1 L[i].1.1
   ·refine⟨_,_,if_pos hput,by simp;omega,by simp,λ_=>?_⟩
    rw[h1 hput.1,hd];simp[gh,hput.2]
   ·refine⟨_,_,if_neg hput,by omega,λhp=>?_,λhp=>?_⟩
    ·have hnl:¬ aF f.1.1 L[i].1.1:=λh=>hput ⟨hp,h⟩;rw[h1 hp,hd];simp[gh,hnl]
    ·rw[h2 hp,hd]
  refine⟨[.sl (aq L),.sl (aq (o++[L[i]])),.bool p,I ((i+1:Nat):Int),c1,c2,af f.1.1,af f.1.1,I f.1.2,P],?_,o++[L[i]],p,rfl,by simp;omega,λhp=>by rw[q1 hp];simp,λhp=>by rw[q2 hp];simp⟩
  refine aa (z:=aq L) rfl (aa ag (aa ae (aH (by show((i:Int)<((aq L).length:Int));rw[aA];omega) ?_)))
  refine(aa (z:=aq L) rfl (aa (z:=i) (by rw[aA];exact ap hi) (aa (cV hi) (aa (z:=af L[i].1.1) rfl (aa hc ?_)))))
  refine aa (z:=(0,[.sl (aq o),.bool p,c1,c2,af f.1.1,af f.1.1,I f.1.2,P])) ?_ ?_
  ·refine aa (z:=.bool (!put)) rfl (aa (z:=!put) rfl (aa (z:=!put&&decide (aF f.1.1 L[i].1.1)) ?_ (aa (z:=!put&&decide (aF f.1.1 L[i].1.1)) rfl ?_)))
   ·cases put
    ·exact ae
    ·rfl
   ·by_cases hput:put=false/\aF f.1.1 L[i].1.1
    ·rw[if_pos hput] at he;obtain⟨rfl,hlt⟩:=hput;cases he;rw[show(!false&&decide (aF f.1.1 L[i].1.1))=true by simp[hlt],if_pos rfl,if_pos (by simp only[zgc,zfc,D.els,aA,zBa,zib];omega)]
     simp only[zgc,zfc,D.els,<-hP,app]
    ·rw[if_neg hput] at he;cases he;rw[show(!put&&decide (aF f.1.1 L[i].1.1))=false by
      cases put
      ·simpa using hput
      ·rfl]
     rfl
  ·refine aa (z:=aq L) rfl (aa (z:=i) (by rw[aA];exact ap hi) (aa (cV hi) ?_))
   rw[if_pos (by simp only[zgc,zfc,D.els,aA,zBa,zib];omega)]
   refine aa (aw (ay (i:=i) (by omega))) ?_
   simp only[zgc,zfc,D.els,<-hP,app];rfl
 ·obtain⟨out,put,rfl,hol,h1,h2⟩:=hJ;refine⟨(0,[.sl (aq out),.bool put,c1,c2,af f.1.1,af f.1.1,I f.1.2,P]),?_,?_⟩
  ·exact aa (z:=aq L) rfl (aa ag (aa ae (aC (by show ¬ ((L.length:Int)<((aq L).length:Int));rw[aA];omega) rfl)))
  ·cases put
   ·have:=h1 rfl;rw[zyc] at this;rw[this];refine aa (z:=(0,[.sl (aq (out++[f])),c1,c2,af f.1.1])) ?_ rfl;refine aa (z:=.bool true) rfl (aa (z:=true) rfl ?_);rw[if_pos rfl,if_pos (by simp only[zgc,zfc,D.els,aA,zBa,zib];omega)]
    simp only[zgc,zfc,D.els,<-hP,app]
   ·have:=h2 rfl;rw[zyc,z4b] at this;rw[this];rfl
def J4(n:Nat)(c1 c2:D){l:List V}(hl:∀ x∈l,bd MV x)(hlen:l.length<=100)(hs:Eh l){F:FL}(hF:FOk l F){i j k:Nat}(hij:i<j)(hjk:j<k)(hk:k<l.length){m:V}(hm:m=bu (dS (pt l) i j k)\/m=(bu (dS (pt l) i j k)).neg){α:Type}{g:D->Nat×List D->Option α}{Y:α->Prop}
  (hg:∀ F':FL,FOk l F'->(∀ f∈F,f∈F')->(dS (pt l) i j k≠V.zero->ug (pt l) l.length m (V.dot m (pt l i))->(m,V.dot m (pt l i))∈F'.map Prod.fst)->∃ y,g (I (V.dot m (pt l i))) (0,[.sl (aq F'),c1,c2])=some y/\Y y) :
  ∃ y,(Option.bind (cA (n+4) 107 [(af m),(af (pt l i))]) λr32=>
 Option.bind (cA (n+4) 108 [(.sl (aq F)),(af m)]) λr33=>
 Option.bind (Option.bind (D.un .not r33) λx34=>
 Option.bind (D.truth x34) λb35=>
 Option.bind (if b35 then(Option.bind (D.un .not (D.bool (D.beq (af m) (D.st [(D.int .i64 0),(D.int .i64 0),(D.int .i64 0)])))) λx36=>
 D.truth x36) else(some false)) λb37=>
 Option.bind (D.truth (D.bool b37)) λb38=>
 Option.bind (if b38 then(Option.bind (cA (n+4) 109 [aS l,(af m),r32]) λr39=>
 D.truth r39) else(some false)) λb40=>
 Option.bind (D.truth (D.bool b40)) λb41=>
 if b41 then(Option.bind (cA (n+4) 111 [aS l,(af m),r32]) λr42=>
 IU aT (cA (n+4)) (.sl (aq F)) c1 c2 (af m) r32 r42) else(some (0,[(.sl (aq F)),c1,c2]))) (g r32))=some y/\Y y:=by
 have hi:i<l.length:=by omega
 have bt:bd 549755813888 (bu (dS (pt l) i j k)):=jl (eB (jm (P:=pt l) (hl _ (cg hi)) (hl _ (cg (show j<l.length by omega)))) (jm (P:=pt l) (hl _ (cg hi)) (hl _ (cg hk))))
 have bm:bd 549755813888 m:=by
  rcases hm with rfl|rfl
  ·exact bt
  ·exact nl bt
 have hFl:=hF.len hlen;have hmz:m=V.zero↔dS (pt l) i j k=V.zero:=by
  rcases hm with rfl|rfl
  ·exact kI
  ·rw[vw,kI]
 refine ab (zZ (n+3) bm (hl _ (cg hi)) (by decide)) (ab (My (n+3) F m (by omega)) ?_)
 obtain⟨d,hd⟩:∃ d,V.dot m (l.getD i V.zero)=d:=⟨_,rfl⟩;have hdp:V.dot m (pt l i)=d:=hd;rw[hdp] at hg;rw[hdp];by_cases hkn:(F.any λf=>decide (f.1.1=m))=true
 ·rw[hkn];refine ab (z:=(0,[.sl (aq F),c1,c2])) (aa (z:=.bool false) rfl (aa (z:=false) rfl (aa (z:=false) rfl (aa (z:=false) rfl (aa (z:=false) rfl (aa (z:=false) rfl rfl)))))) (hg F hF (λf hf=>hf) λht hsp=>?_);obtain⟨f,hf,hfm⟩:=zRc.1 hkn;have hfm:f.1.1=m:=by simpa using hfm
  have h1:=(hF.ok f hf).1;rw[hfm] at h1;have h2:IsF (pt l) l.length m d:=⟨⟨i,j,k,hij,hjk,hk,ht,hm,hdp.symm⟩,hsp⟩;exact z5a.2 ⟨f,hf,Prod.ext hfm (IsF.d_eq h1 h2)⟩
 ·rw[Bool.not_eq_true] at hkn;rw[hkn];have hnk:∀ f∈F,f.1.1≠m:=λf hf e=>by
   have:=List.any_eq_false.1 hkn f hf;simp[e] at this
  by_cases hz:m=V.zero
  ·refine ab (z:=(0,[.sl (aq F),c1,c2])) (aa (z:=.bool true) rfl (aa (z:=true) rfl (aa (z:=false) ?_ (aa (z:=false) rfl (aa (z:=false) rfl (aa (z:=false) rfl rfl)))))) (hg F hF (λf hf=>hf) λht hsp=>absurd (hmz.1 hz) ht);rw[if_pos rfl,iF,gN,decide_eq_true (show m=⟨0,0,0⟩ from hz)];rfl
  ·have ht:dS (pt l) i j k≠V.zero:=λe=>hz (hmz.2 e);have hc:=Mz (n+2) (d:=d) hl bm (by decide) (by omega)
   by_cases hsp:supp l (m,d)=true
   ·have hFm:IsF (pt l) l.length m d:=⟨⟨i,j,k,hij,hjk,hk,ht,hm,hdp.symm⟩,km.1 hsp⟩;obtain⟨p,hp,_,_⟩:=hFm.poly hs;refine ab (z:=(0,[.sl (aq (gh ((m,d),p) F)),c1,c2])) (aa (z:=.bool true) rfl (aa (z:=true) rfl (aa (z:=true) ?_ (aa (z:=true) rfl (aa (z:=true) ?_ (aa (z:=true) rfl ?_)))))) (hg _ (hF.insert hnk hFm hp) (λf hf=>iP.2 (.inr hf)) λ_ _=>z5a.2 ⟨((m,d),p),iP.2 (.inl rfl),rfl⟩)
    ·rw[if_pos rfl,iF,gN,decide_eq_false (show ¬ m=⟨0,0,0⟩ from hz)];rfl
    ·rw[if_pos rfl];refine aa hc ?_;rw[ae];exact congrArg some hsp
    ·rw[if_pos rfl];exact aa (Nu n hl hlen hs hFm bm hp) (IV (n+3) F ((m,d),p) c1 c2 rfl (by omega))
   ·refine ab (z:=(0,[.sl (aq F),c1,c2])) (aa (z:=.bool true) rfl (aa (z:=true) rfl (aa (z:=true) ?_ (aa (z:=true) rfl (aa (z:=false) ?_ (aa (z:=false) rfl rfl)))))) (hg F hF (λf hf=>hf) λ_ hsp'=>absurd (km.2 hsp') hsp)
    ·rw[if_pos rfl,iF,gN,decide_eq_false (show ¬ m=⟨0,0,0⟩ from hz)];rfl
    ·rw[if_pos rfl];refine aa hc ?_;rw[ae];exact congrArg some (zXb.2 hsp)
def XO{x y z w:D}{l:List D}{d:D}:List.getD (x::y::z::w::l) 3 d=w:=rfl
def XP{x y z w v:D}{l:List D}{d:D}:List.getD (x::y::z::w::v::l) 4 d=v:=rfl
def BK(n:Nat){l:List V}(hl:∀ x∈l,bd MV x)(hlen:l.length<=100)(hs:Eh l)(c1 c2:D){α:Type}{K:Nat×List D->Option α}{Y:α->Prop}(hK:∀ F:FL,KnF l l.length 0 0 F->∃ y,K (0,[.sl (aq F),c1,c2])=some y/\Y y):∃ y,Option.bind (IJ aT (cA (n+6)) (aS l) c1 c2) K=some y/\Y y:=by
 delta IJ qB qC qT qN qX qL qW qZ iL iR Jn
 have ll:(l.map af).length=l.length:=zta ..;refine eI (λi s=>∃ F:FL,s=[.sl (aq F),I (i:Int),c1,c2]/\KnF l i 0 0 F) l.length 0 (zia _) ⟨[],rfl,⟨.nil,by simp⟩,λi' j' k' h1 h2 h3 h4=>by omega⟩ (λi hi s hJ=>?_) (λs hJ=>?_)
 ·obtain⟨F,rfl,hF⟩:=hJ;refine ab (z:=l.map af) rfl (ab ag (ab ae (bV (by show((i:Int)<((l.map af).length:Int));rw[ll];omega) (ab (aw (ay (i:=i) (by omega))) ?_))))
  refine eI (λj s=>i+1<=j/\∃ F:FL,s=[.sl (aq F),I (j:Int),c1,c2]/\KnF l i j 0 F) l.length (i+1) (by omega) ⟨zja _,F,rfl,hF.mono λi' j' k' h1 h2 h3 h4=>by omega⟩ (λj hj s hJ=>?_) (λs hJ=>?_)
  ·obtain⟨hij,F,rfl,hF⟩:=hJ;refine ab (z:=l.map af) rfl (ab ag (ab ae (bV (by show((j:Int)<((l.map af).length:Int));rw[ll];omega) (ab (aw (ay (i:=j) (by omega))) ?_))))
   refine eI (λk s=>j+1<=k/\∃ F:FL,s=[.sl (aq F),I (k:Int),c1,c2]/\KnF l i j k F) l.length (j+1) (by omega) ⟨zja _,F,rfl,hF.mono λi' j' k' h1 h2 h3 h4=>by omega⟩ (λk hk s hJ=>?_) (λs hJ=>?_)
   ·obtain⟨hjk,F,rfl,hF⟩:=hJ;refine ab (z:=l.map af) rfl (ab ag (ab ae (bV (by show((k:Int)<((l.map af).length:Int));rw[ll];omega) ?_)))
    refine ab (z:=l.map af) rfl (ab (z:=i) (by rw[ll];exact ap hi) (ab (cN hi) (ab (z:=l.map af) rfl (ab (z:=j) (by rw[ll];exact ap hj) (ab (cN hj) (ab (z:=l.map af) rfl (ab (z:=k) (by rw[ll];exact ap hk) (ab (cN hk) (ab (z:=af (bu (dS (pt l) i j k))) (Mx n (hl _ (cg hi)) (hl _ (cg hj)) (hl _ (cg hk))) ?_)))))))))
    have bt:bd 549755813888 (bu (dS (pt l) i j k)):=jl (eB (jm (P:=pt l) (hl _ (cg hi)) (hl _ (cg hj))) (jm (P:=pt l) (hl _ (cg hi)) (hl _ (cg hk))));obtain⟨p,hp⟩:∃ p,bu (dS (pt l) i j k)=p:=⟨_,rfl⟩;rw[hp] at bt ⊢;have z0:bd 0 V.zero:=by simp only[bd,V.zero];omega
    have e1:V.zero.sub p=p.neg:=by apply V.ext'<;>simp[V.sub,V.neg,V.zero]
    have e2:V.zero.sub p.neg=p:=by apply V.ext'<;>simp[V.sub,V.neg,V.zero]
    refine eI (λt s=>∃ F':FL,s=[.sl (aq F'),I (t:Int),c1,c2,af (mt p t)]/\FOk l F'/\(∀ f∈F,f∈F')/\(1<=t->dS (pt l) i j k≠V.zero->ug (pt l) l.length p (V.dot p (pt l i))->(p,V.dot p (pt l i))∈F'.map Prod.fst)/\(2<=t->dS (pt l) i j k≠V.zero->ug (pt l) l.length p.neg (V.dot p.neg (pt l i))->(p.neg,V.dot p.neg (pt l i))∈F'.map Prod.fst)) 2 0 (by omega) ⟨F,rfl,hF.fok,λf hf=>hf,λh=>by omega,λh=>by omega⟩ (λt ht s hJ=>?_) (λs hJ=>?_)
    ·obtain⟨F',rfl,f1,f2,f3,f4⟩:=hJ;refine ab ag (ab ae (bV (by show((t:Int)<2);omega) (ab (z:=l.map af) rfl (ab (z:=i) (by rw[ll];exact ap hi) (ab (cN hi) ?_)))))
     have ht':t=0\/t=1:=by omega
     simp only[g0,g1,g2,XO,XP];rcases ht' with rfl|rfl
     ·rw[show mt p 0=p from rfl];refine J4 (n+2) c1 c2 hl hlen hs f1 (show i<j by omega) (show j<k by omega) hk (m:=p) (.inl hp.symm) (λF2 k1 k2 k3=>?_)
      refine⟨.inl [.sl (aq F2),I ((0+1:Nat):Int),c1,c2,af p.neg],?_,?_⟩
      ·refine aa (z:=af p.neg) ?_ ?_
       ·have:=ui (n+5) z0 bt (by decide)
        rw[e1] at this;exact this
       ·exact aa (aw KX) rfl
      ·exact⟨F2,rfl,k1,λf hf=>k2 f (f2 f hf),λ_=>k3,λh=>by omega⟩
     ·rw[show mt p 1=p.neg from rfl];refine J4 (n+2) c1 c2 hl hlen hs f1 (show i<j by omega) (show j<k by omega) hk (m:=p.neg) (.inr (by rw[hp])) (λF2 k1 k2 k3=>?_)
      refine⟨.inl [.sl (aq F2),I ((1+1:Nat):Int),c1,c2,af p],?_,F2,rfl,k1,λf hf=>k2 f (f2 f hf),λ_ h1 h2=>?_,λ_=>k3⟩
      ·refine aa (z:=af p) ?_ ?_
       ·have:=ui (n+5) z0 (nl bt) (by decide)
        rw[e2] at this;exact this
       ·exact aa (aw ut) rfl
      ·obtain⟨f,hf,e⟩:=z5a.1 (f3 (zja _) h1 h2);exact z5a.2 ⟨f,k2 f hf,e⟩
    ·obtain⟨F',rfl,f1,f2,f3,f4⟩:=hJ;refine⟨.inr (0,[.sl (aq F'),c1,c2]),aa ag (aa ae (aC (by decide) rfl)),.inl [.sl (aq F'),I ((k+1:Nat):Int),c1,c2],aa (aw (ay (i:=k) (by omega))) rfl,by omega,F',rfl,f1,λi' j' k' h1 h2 h3 h4 h5 m h6 h7=>?_⟩
     by_cases e:i'=i/\j'=j/\k'=k
     ·obtain⟨rfl,rfl,rfl⟩:=e;rw[hp] at h6;rcases h6 with rfl|rfl
      ·exact f3 (by omega) h5 h7
      ·exact f4 (by omega) h5 h7
     ·obtain⟨f,hf,e⟩:=z5a.1 (hF.all i' j' k' h1 h2 h3 (by omega) h5 m h6 h7)
      exact z5a.2 ⟨f,f2 f hf,e⟩
   ·obtain⟨hjk,F,rfl,hF⟩:=hJ;refine⟨.inr (0,[.sl (aq F),c1,c2]),?_,.inl [.sl (aq F),I ((j+1:Nat):Int),c1,c2],aa (aw (ay (i:=j) (by omega))) rfl,by omega,F,rfl,hF.mono λi' j' k' h1 h2 h3 h4=>by omega⟩
    exact aa (z:=l.map af) rfl (aa ag (aa ae (aC (by show ¬ ((l.length:Int)<((l.map af).length:Int));rw[ll];omega) rfl)))
  ·obtain⟨hij,F,rfl,hF⟩:=hJ;refine⟨.inr (0,[.sl (aq F),c1,c2]),?_,.inl [.sl (aq F),I ((i+1:Nat):Int),c1,c2],aa (aw (ay (i:=i) (by omega))) rfl,F,rfl,hF.mono λi' j' k' h1 h2 h3 h4=>by omega⟩
   exact aa (z:=l.map af) rfl (aa ag (aa ae (aC (by show ¬ ((l.length:Int)<((l.map af).length:Int));rw[ll];omega) rfl)))
 ·obtain⟨F,rfl,hF⟩:=hJ;obtain⟨y,hy,hY⟩:=hK F hF;refine⟨.inr (0,[.sl (aq F),c1,c2]),?_,y,hy,hY⟩;exact aa (z:=l.map af) rfl (aa ag (aa ae (aC (by show ¬ ((l.length:Int)<((l.map af).length:Int));rw[ll];omega) rfl)))
end Sy
end
noncomputable section
namespace Sy
open Go Go.Proofs Geo
def wG{A:Option D}(h:∃ y,A=some y/\∃ v:Bool,y=.bool v):∃ v:Bool,A=some (.bool v):=by
 obtain⟨y,h,v,rfl⟩:=h;exact⟨v,h⟩
def F9{b:ByteArray}{i:Nat}(h:i<b.size):∃ x:Int,D.strAt (.str b) (I (i:Int))=some (.int .u8 x):=by
 refine⟨b[i].toNat,?_⟩;simp[D.strAt,h]
def SX(n:Nat)(b:ByteArray):∃ v:Bool,cA (n+2) 361 [.str b]=some (.bool v):=by
 refine wG ?_;rw[UY];delta HU qB qC qT qN qZ iL iR Jn;by_cases h1:(b.size:Int)<1
 ·exact⟨_,aa (z:=I (b.size:Int)) rfl (aa ag (aa (z:=true) (by rw[ae,decide_eq_true h1]) (aa (z:=true) rfl (aa (z:=true) rfl (ld rfl))))),false,rfl⟩
 ·by_cases h2:(b.size:Int)>32
  ·refine⟨.bool false,aa (z:=I (b.size:Int)) rfl (aa ag (aa (z:=false) (by rw[ae,decide_eq_false h1]) (aa (z:=true) ?_ (aa (z:=true) rfl (ld rfl))))),false,rfl⟩
   rw[if_neg (by decide)]
   exact aa (z:=I (b.size:Int)) rfl (aa cn (by rw[ae,decide_eq_true h2]))
  ·refine ab (z:=I (b.size:Int)) rfl (ab ag (ab (z:=false) (by rw[ae,decide_eq_false h1]) (ab (z:=false) ?_ (ab (z:=false) rfl ?_))))
   ·rw[if_neg (by decide)]
    exact aa (z:=I (b.size:Int)) rfl (aa cn (by rw[ae,decide_eq_false h2]))
   rw[if_neg (by decide)]
   refine eI (λi s=>s=[I (i:Int)]) b.size 0 (zia _) rfl (λi hi s hJ=>?_) (λs hJ=>?_)
   ·subst hJ;obtain⟨x,hx⟩:=F9 hi;obtain⟨w,hw⟩:=S4 n x;refine ab (z:=I (b.size:Int)) rfl (ab ag (ab ae (bV (by show(i:Int)<(b.size:Int);omega) (ab hx (ab hw (ab bv (ab ae (ab (z:=!w&&(decide ((i:Int)=0)||(!decide (x=95)&&(decide (x<48)||decide (x>57))))) ?_ (ab ae ?_)))))))))
    ·cases w
     ·by_cases h0:(i:Int)=0
      ·simp[h0,D.beq,D.truth]
      ·have h0':¬ i=0:=by omega
       by_cases hx1:x=95<;>by_cases hx2:x<48<;>by_cases hx3:x>57<;>simp[h0,h0',D.beq,D.truth,hx,hx1,hx2,hx3,D.bin]
     ·rfl
    ·generalize (!w&&(decide ((i:Int)=0)||(!decide (x=95)&&(decide (x<48)||decide (x>57)))))=c;cases c
     ·exact⟨.inl [I ((i+1:Nat):Int)],by rw[if_neg (by decide)];exact aa (aD (a:=i) (b:=1) (by omega)) rfl,rfl⟩
     ·exact⟨.inr (0,[.bool false]),rfl,.bool false,rfl,false,rfl⟩
   ·subst hJ;exact⟨.inr (1,[]),aa (z:=I (b.size:Int)) rfl (aa ag (aa ae (aC (by show ¬ ((b.size:Int)<(b.size:Int));omega) rfl))),.bool true,rfl,true,rfl⟩
structure Bdy where
 nm:ByteArray
 P:List (List V)
 m0:Int
 m1:Int
 r0:Int
 r1:Int
def iE(b:Bdy):D:=.st [.str b.nm,.sl (b.P.map be),.st [I b.m0,I b.m1],.st [I b.r0,I b.r1]]
def ca(P:List (List V)):(P.map be).length=P.length:=zta ..
def An{P:List (List V)}{i:Nat}(h:i<P.length):(P.map be)[i]?=some (be P[i]):=by simp[h]
def SU(n:Nat)(b:Bdy)(hL:b.P.length<=9223372036854775807):∃ v:Bool,cA (n+1) 346 [iE b]=some (.bool v)/\(v=true->b.P.length<=3/\∀ l∈b.P,l.length<=10):=by
 suffices h:∃ y,cA (n+1) 346 [iE b]=some y/\∃ v:Bool,y=.bool v/\(v=true->b.P.length<=3/\∀ l∈b.P,l.length<=10) by
  obtain⟨y,h,v,rfl,k⟩:=h;exact⟨v,h,k⟩
 rw[US];delta HN qB qC qS qY qM qP qZ iL iR Jn;refine eI (λi s=>s=[I (i:Int)]/\∀ l∈b.P.take i,l.length<=10) b.P.length 0 (zia _) ⟨rfl,by simp⟩ (λi hi s hJ=>?_) (λs hJ=>?_)
 ·obtain⟨rfl,hJ⟩:=hJ;refine ab (z:=.sl (b.P.map be)) rfl (ab (z:=b.P.map be) rfl (ab ag (ab ae (bV (by show(i:Int)<((b.P.map be).length:Int);rw[ca];omega) ?_))))
  refine ab (z:=.sl (b.P.map be)) rfl (ab (z:=b.P.map be) rfl (ab (z:=i) (by rw[ca];exact ap hi) (ab (An hi) (ab (z:=aS b.P[i]) rfl (ab (z:=b.P[i].map af) rfl (ab cn (ab ae ?_)))))))
  rw[aN];by_cases h:b.P[i].length<=10
  ·refine wH (by omega) ⟨.inl [I ((i+1:Nat):Int)],aa (aD (a:=i) (b:=1) (by omega)) rfl,rfl,?_⟩
   rw[zqa hi];intro l hl;rcases zDa.1 hl with hl|hl
   ·exact hJ l hl
   ·rw[zIa.1 hl];exact h
  ·exact bV (by omega) ⟨.inr (0,[.bool false]),rfl,.bool false,rfl,false,rfl,λh=>by cases h⟩
 ·obtain⟨rfl,hJ⟩:=hJ;rw[zKa] at hJ;refine⟨.inr (1,[]),aa (z:=.sl (b.P.map be)) rfl (aa (z:=b.P.map be) rfl (aa ag (aa ae (aC (by show ¬ ((b.P.length:Int)<((b.P.map be).length:Int));rw[ca];omega) rfl)))),?_⟩
  refine⟨.bool (decide (b.P.length<=3)),?_,_,rfl,λh=>⟨by simpa using h,hJ⟩⟩
  rw[if_neg (by decide)]
  refine aa (z:=.sl (b.P.map be)) rfl (aa (z:=b.P.map be) rfl (aa rV ?_));rw[ca];congr 2;rw[decide_eq_decide];omega
def ID{v:V}{k:Int}(h:∀ t,t<3->bC v t<=k/\-k<=bC v t):bd k v:=by
 have a:=h 0 (by decide);have b:=h 1 (by decide);have c:=h 2 (by decide)
 simp only[bC,if_true,if_false,Nat.one_ne_zero,Nat.reduceEqDiff] at a b c;exact⟨⟨a.2,a.1⟩,⟨b.2,b.1⟩,⟨c.2,c.1⟩⟩
def yx{v:V}{i:Nat}(h:i<3):D.fld (af v) i=some (I (bC v i)):=by
 have:i=0\/i=1\/i=2:=by omega
 rcases this with rfl|rfl|rfl<;>rfl
def SY(n:Nat){l:List V}(hlen:l.length<=1000):∃ v:Bool,cA (n+1) 362 [be l]=some (.bool v)/\(v=true->∀ x∈l,bd 4096 x):=by
 suffices h:∃ y,cA (n+1) 362 [be l]=some y/\∃ v:Bool,y=.bool v/\(v=true->∀ x∈l,bd 4096 x) by
  obtain⟨y,h,v,rfl,k⟩:=h;exact⟨v,h,k⟩
 rw[UZ];delta HV qB qC qT qY qM qZ iL iR Jn;refine eI (λi s=>s=[I (i:Int)]/\∀ x∈l.take i,bd 4096 x) l.length 0 (zia _) ⟨rfl,by simp⟩ (λi hi s hJ=>?_) (λs hJ=>?_)
 ·obtain⟨rfl,hJ⟩:=hJ;refine ab (z:=aS l) rfl (ab (z:=l.map af) rfl (ab ag (ab ae (bV (by show(i:Int)<((l.map af).length:Int);rw[aN];omega) ?_))))
  refine eI (λk s=>s=[I (k:Int)]/\∀ t,t<k->bC l[i] t<=4096/\-4096<=bC l[i] t) 3 0 (zia _) ⟨rfl,λt h=>by omega⟩ (λk hk s hK=>?_) (λs hK=>?_)
  ·obtain⟨rfl,hK⟩:=hK;have hg:Option.bind (D.get (be l) [0]) (λx9=>Option.bind (D.asSl x9) λl10=>Option.bind (D.idx (I (i:Int)) l10.length) λi11=>l10[i11]?)=some (af l[i]):=
    aa (z:=aS l) rfl (aa (z:=l.map af) rfl (aa (z:=i) (by rw[aN];exact ap hi) (sW hi)))
   refine ab ag (ab ae (bV (by show(k:Int)<3;omega) ?_))
   refine ab (z:=aS l) rfl (ab (z:=l.map af) rfl (ab (z:=i) (by rw[aN];exact ap hi) (ab (sW hi) (ab (z:=k) (ap hk) (ab (yx hk) (ab cn (ab ae ?_)))))))
   by_cases h1:bC l[i] k>4096
   ·refine ab (z:=true) (by rw[decide_eq_true h1];rfl) (ab (z:=true) rfl ⟨.inr (0,[.bool false]),rfl,.inr (0,[.bool false]),rfl,.bool false,rfl,false,rfl,λh=>by cases h⟩)
   ·refine ab (z:=decide (bC l[i] k < -4096)) ?_ (ab ae ?_)
    ·rw[decide_eq_false h1,if_neg (by decide)]
     exact aa (z:=aS l) rfl (aa (z:=l.map af) rfl (aa (z:=i) (by rw[aN];exact ap hi) (aa (sW hi) (aa (z:=k) (ap hk) (aa (yx hk) (aa ag ae))))))
    ·by_cases h2:bC l[i] k < -4096
     ·exact bV h2 ⟨.inr (0,[.bool false]),rfl,.inr (0,[.bool false]),rfl,.bool false,rfl,false,rfl,λh=>by cases h⟩
     ·refine wH h2 ⟨.inl [I ((k+1:Nat):Int)],aa (aD (a:=k) (b:=1) (by omega)) rfl,rfl,λt ht=>?_⟩
      by_cases e:t=k
      ·subst e;omega
      ·exact hK t (by omega)
  ·obtain⟨rfl,hK⟩:=hK;refine⟨.inr (1,[]),aa ag (aa ae (aC (by decide) rfl)),.inl [I ((i+1:Nat):Int)],?_,rfl,?_⟩
   ·rw[if_neg (by decide)]
    exact aa (aD (a:=i) (b:=1) (by omega)) rfl
   ·rw[zqa hi];intro x hx;rcases zDa.1 hx with hx|hx
    ·exact hJ x hx
    ·rw[zIa.1 hx];exact ID hK
 ·obtain⟨rfl,hJ⟩:=hJ;rw[zKa] at hJ;refine⟨.inr (1,[]),aa (z:=aS l) rfl (aa (z:=l.map af) rfl (aa ag (aa ae (aC (by show ¬ ((l.length:Int)<((l.map af).length:Int));rw[aN];omega) rfl)))),.bool true,rfl,true,rfl,λ_=>hJ⟩
structure Hul(l:List V):Prop where
 len:l.length<=64
 bd:∀ x∈l,bd MV x
 srt:Eh l
 vtx:∀ k,k<l.length->Mt (pt l) l.length k
 ex:∃ m d,IsF (pt l) l.length m d
def SE(n:Nat){l:List V}(h:l.length<=100):(∃ e:Int,cA (n+9) 15 [be l]=some (I e)/\e≠0)\/(cA (n+9) 15 [be l]=some (I 0)/\Hul l):=by
 rcases XC n (l:=l) h with⟨e,h1,h2⟩|⟨h1,h2,h3,F,h4,hne,_,h5⟩
 ·exact .inl ⟨e,h1,h2⟩
 ·right;have ho:=List.Pairwise.sublist (DW (dQ l) F) (tW l);rw[h5] at ho;have hs:=F7 ho;rw[Jr ho] at h4 h5;refine⟨h1,h2,h3,hs,λk hk=>?_,?_⟩
  ·refine E5 hs h4.fok ?_;have e:=congrArg List.length h5;unfold dj at e;rw[zta] at e;have e2:((List.range l.length).filter (jr F)).length=(List.range l.length).length:=by rw[e,zVb]
   exact List.length_filter_eq_length_iff.1 e2 k (zJa.2 hk)
  ·obtain⟨f,hf⟩:∃ f,f∈F:=List.exists_mem_of_ne_nil F (λe=>hne (by rw[e];rfl))
   exact⟨_,_,(h4.fok.ok f hf).1⟩
def Hul.pos{l:List V}(h:Hul l):0<l.length:=by
 obtain⟨m,d,hF⟩:=h.ex;obtain⟨i,j,k,h1,h2,h3,_⟩:=hF.ex;omega
def Ke{m v:V}(hm:bd 549755813888 m)(hv:bd 4096 v):In (V.dot m v):=by
 have h1:(m.x*v.x).natAbs<=549755813888*4096:=by rw[zHa];exact z2a (by have:=hm.1;omega) (by have:=hv.1;omega)
 have h2:(m.y*v.y).natAbs<=549755813888*4096:=by rw[zHa];exact z2a (by have:=hm.2.1;omega) (by have:=hv.2.1;omega)
 have h3:(m.z*v.z).natAbs<=549755813888*4096:=by rw[zHa];exact z2a (by have:=hm.2.2;omega) (by have:=hv.2.2;omega)
 refine cL ?_;simp only[V.dot,inR];omega
def MY(n:Nat){l:List V}{m:V}(hm:bd 549755813888 m)(hl:∀ x∈l,bd 4096 x)(h0:0<l.length)(hlen:l.length<=1000):∃ a b:Int,cA (n+7) 389 [be l,af m]=some (.st [am a,am b])/\In a/\In b:=by
 suffices h:∃ y,cA (n+7) 389 [be l,af m]=some y/\∃ a b:Int,y=.st [am a,am b]/\In a/\In b by
  obtain⟨y,h,a,b,rfl,k⟩:=h;exact⟨a,b,h,k⟩
 rw[Vc];delta H6 qG qB qC qY qM qZ iL iR Jn;have hd:∀ i (h:i<l.length),cA (n+6) 33 [af m,af l[i]]=some (am (V.dot m l[i]))/\In (V.dot m l[i]):=λi h=>
  have hb:=hl _ (zra h)
  ⟨Vx n hm hb (by decide) (by decide) (by decide),Ke hm hb⟩
 refine ab (z:=aS l) rfl (ab (z:=l.map af) rfl (ab (z:=0) (by rw[aN];exact ap h0) (ab (sW h0) (ab (hd 0 h0).1 ?_))))
 refine eI (λi s=>∃ a b:Int,s=[I (i:Int),.st [am a,am b]]/\In a/\In b) l.length 1 h0 ⟨_,_,rfl,(hd 0 h0).2,(hd 0 h0).2⟩ (λi hi s hJ=>?_) (λs hJ=>?_)
 ·obtain⟨a,b,rfl,ha,hb⟩:=hJ;obtain⟨d1,d2⟩:=hd i hi;refine ab (z:=aS l) rfl (ab (z:=l.map af) rfl (ab ag (ab ae (bV (by show(i:Int)<((l.map af).length:Int);rw[aN];omega) ?_))))
  generalize hD:V.dot m l[i]=d at *;have key:∃ a' b':Int,In a'/\In b'/\(Option.bind (D.get (be l) [0]) λx11=>Option.bind (D.asSl x11) λl12=>Option.bind (D.idx (List.getD [I (i:Int),.st [am a,am b]] 0 (.bool false)) l12.length) λi13=>Option.bind (l12[i13]?) λx14=>Option.bind (cA (n+6) 33 [af m,x14]) λr15=>
    Option.bind (Option.bind (D.get (List.getD [I (i:Int),.st [am a,am b]] 1 (.bool false)) [0]) λx16=>Option.bind (cA (n+6) 32 [r15,x16]) λr17=>Option.bind (D.bin .lss r17 (D.int .i64 0)) λx18=>Option.bind (D.truth x18) λb19=>
     if b19 then(Option.bind (D.set (List.getD [I (i:Int),.st [am a,am b]] 1 (.bool false)) [0] r15) λx20=>some ((0:Nat),[x20])) else some (0,[List.getD [I (i:Int),.st [am a,am b]] 1 (.bool false)])) λ(r21:Nat×List D)=>
    Option.bind (D.get (gx r21.2 0) [1]) λx22=>Option.bind (cA (n+6) 32 [r15,x22]) λr23=>Option.bind (D.bin .gtr r23 (D.int .i64 0)) λx24=>Option.bind (D.truth x24) λb25=>
     if b25 then(Option.bind (D.set (gx r21.2 0) [1] r15) λx26=>some ((0:Nat),[x26])) else some (0,[gx r21.2 0]))=some (0,[.st [am a',am b']]):=by
   refine⟨if bU d a<0 then d else a,if bU d b>0 then d else b,by split<;>assumption,by split<;>assumption,?_⟩
   refine aa (z:=aS l) rfl (aa (z:=l.map af) rfl (aa (z:=i) (by rw[aN];exact ap hi) (aa (sW hi) (aa d1 ?_))))
   refine aa (z:=(0,[.st [am (if bU d a<0 then d else a),am b]])) ?_ ?_
   ·refine aa (z:=am a) rfl (aa (LP (n+3) d2 ha) (aa ag (aa ae ?_)));by_cases h:bU d a<0
    ·refine aH h ?_;rw[if_pos h];rfl
    ·refine aC h ?_;rw[if_neg h];rfl
   ·refine aa (z:=am b) rfl (aa (LP (n+3) d2 hb) (aa cn (aa ae ?_)));by_cases h:bU d b>0
    ·refine aH h ?_;rw[if_pos h];rfl
    ·refine aC h ?_;rw[if_neg h];rfl
  obtain⟨a',b',ha',hb',hk⟩:=key;exact⟨.inl [I ((i+1:Nat):Int),.st [am a',am b']],aa hk (aa (aD (a:=i) (b:=1) (by omega)) rfl),a',b',rfl,ha',hb'⟩
 ·obtain⟨a,b,rfl,ha,hb⟩:=hJ;exact⟨.inr (0,[.st [am a,am b]]),aa (z:=aS l) rfl (aa (z:=l.map af) rfl (aa ag (aa ae (aC (by show ¬ ((l.length:Int)<((l.map af).length:Int));rw[aN];omega) rfl)))),_,rfl,a,b,rfl,ha,hb⟩
def S5(n:Nat){a b:List V}{m:V}(hm:bd 549755813888 m)(ha:∀ x∈a,bd 4096 x)(hb:∀ x∈b,bd 4096 x)(ha0:0<a.length)(hb0:0<b.length)(hal:a.length<=1000)(hbl:b.length<=1000):∃ v:Bool,cA (n+8) 376 [be a,be b,af m]=some (.bool v):=by
 refine wG ?_;rw[U6];delta H0 qG qB qC qT Jn;obtain⟨a1,b1,h1,i1,j1⟩:=MY n hm ha ha0 hal;obtain⟨a2,b2,h2,i2,j2⟩:=MY n hm hb hb0 hbl;rw[iF,gN];refine ab ae ?_;by_cases hz:m=⟨0,0,0⟩
 ·exact bV hz ⟨_,rfl,false,rfl⟩
 ·refine wH hz (ab h1 (ab h2 (ab (z:=am b1) rfl (ab (z:=am a2) rfl (ab (LP (n+4) j1 i2) (ab rV (ab ae ?_)))))));by_cases h:bU b1 a2<=0
  ·exact ab (z:=true) (by rw[decide_eq_true h];rfl) ⟨_,rfl,true,rfl⟩
  ·refine ab (z:=decide (bU b2 a1<=0)) ?_ ⟨_,rfl,_,rfl⟩;rw[decide_eq_false h,if_neg (by decide)]
   exact aa (z:=am b2) rfl (aa (z:=am a1) rfl (aa (LP (n+4) j2 i1) (aa rV ae)))
end Sy
end
noncomputable section
namespace Sy
open Go Go.Proofs Geo
def OK(p:List Nat)(a b i:Nat):Bool:=(decide (p.getD i 0=a)&&decide (p.getD ((i+1)%p.length) 0=b))||(decide (p.getD i 0=b)&&decide (p.getD ((i+1)%p.length) 0=a))
def Gz(p:List Nat)(a b t:Nat):Bool:=(List.range t).any (OK p a b)
def mS(F:FL)(a b:Nat):Bool:=F.any λf=>Gz f.2 a b f.2.length
def lX(F:FL)(a b:Nat):List (Nat×Nat):=((List.range b).filter λc=>decide (a<c)&&mS F a c).map λc=>(a,c)
def nS(F:FL)(N a:Nat):List (Nat×Nat):=(List.range a).flatMap λa=>lX F a N
def E8(p:List Nat)(a b t:Nat):Gz p a b (t+1)=(Gz p a b t||OK p a b t):=by
 unfold Gz;rw[zGb,zGc];simp
def DE(F:FL){a b:Nat}(h:a<b):lX F a (b+1)=if mS F a b then lX F a b++[(a,b)] else lX F a b:=by
 unfold lX;rw[zGb,List.filter_append];by_cases k:mS F a b=true<;>simp[h,k]
def FV(F:FL)(a:Nat):lX F a (a+1)=[]:=by
 unfold lX;rw[List.map_eq_nil_iff,List.filter_eq_nil_iff];intro c hc;have:=zJa.1 hc;simp;omega
def zr(F:FL)(a b:Nat):(lX F a b).length<=b:=by
 unfold lX;rw[zta];exact zAa (zlc _ _) (by simp)
def uH(F:FL)(N a:Nat):nS F N (a+1)=nS F N a++lX F a N:=by
 unfold nS;rw[zGb,List.flatMap_append];simp
def xQ(F:FL)(N a:Nat):(nS F N a).length<=a*N:=by
 induction a with
 | zero=>simp[nS]
 | succ a ih=>rw[uH,zva,Nat.succ_mul];have:=zr F a N;omega
def Fl{F:FL}{N:Nat}{e:Nat×Nat}:e∈nS F N N↔e.1<N/\e.2<N/\e.1<e.2/\mS F e.1 e.2=true:=by
 obtain⟨a,b⟩:=e;simp only[nS,lX,zJb,zJa,z5a,zpc,zaa,decide_eq_true_eq,Prod.mk.injEq];constructor
 ·rintro⟨c,hc,d,⟨hd,h1,h2⟩,rfl,rfl⟩;exact⟨hc,hd,h1,h2⟩
 ·rintro⟨h1,h2,h3,h4⟩;exact⟨a,h1,b,⟨h2,h3,h4⟩,rfl,rfl⟩
def Sl{M:List (Nat×Nat)}(e:Nat×Nat):D.sl (M.map gg++[gg e])=.sl ((M++[e]).map gg):=by simp
def Fh(M:List (Nat×Nat)):(M.map gg).length=M.length:=zta ..
def XD(n:Nat){l:List V}(hlen:l.length<=100){F:FL}(hF:F.length<=3000000)(hp:∀ f∈F,0<f.2.length/\f.2.length<=1000000)(h19:cA (n+1) 19 [be l]=some (.sl (aq F))):cA (n+2) 22 [be l]=some (.sl ((nS F l.length l.length).map gg)):=by
 rw[XY]
 delta NT qB qT qS qX qL qM qV qW qZ iL iR Jn
 refine aa h19 ?_;refine bc (λa s=>s=[.sl ((nS F l.length a).map gg),I (a:Int)]) l.length 0 (zia _) rfl (λa ha s hJ=>?_) (λs hJ=>?_)
 ·subst hJ;left;refine⟨[.sl ((nS F l.length (a+1)).map gg),I ((a+1:Nat):Int)],?_,rfl⟩;have hal:(nS F l.length a).length<=10000:=zAa (xQ F l.length a) (z2a (show a<=100 by omega) hlen)
  refine aa (z:=aS l) rfl (aa (z:=l.map af) rfl (aa ag (aa ae (aH (by show((a:Int)<((l.map af).length:Int));rw[aN];omega) (aa (aw (ay (i:=a) (by omega))) ?_)))))
  rw[uH];obtain⟨M,hM⟩:∃ M,nS F l.length a=M:=⟨_,rfl⟩;rw[hM] at hal ⊢;refine bY (λb s=>a+1<=b/\s=[.sl ((M++lX F a b).map gg),I (b:Int)]) l.length (a+1) (by omega) ⟨zja _,by rw[FV,z4b];rfl⟩ (λb hb s hJ=>?_) (λs hJ=>?_)
  ·obtain⟨hab,rfl⟩:=hJ;left;refine⟨[.sl ((M++lX F a (b+1)).map gg),I ((b+1:Nat):Int)],?_,by omega,rfl⟩
   have hrl:=zr F a b;rw[DE F (show a<b by omega)]
   obtain⟨R,hR⟩:∃ R,M++lX F a b=R:=⟨_,rfl⟩;have hRl:R.length<=10100:=by rw[<-hR,zva];omega
   have eR:(M++if mS F a b=true then lX F a b++[(a,b)] else lX F a b)=if mS F a b=true then R++[(a,b)] else R:=by
    split
    ·rw[<-hR,zOa]
    ·exact hR
   rw[eR,hR];refine aa (z:=aS l) rfl (aa (z:=l.map af) rfl (aa ag (aa ae (aH (by show((b:Int)<((l.map af).length:Int));rw[aN];omega) ?_))))
   refine aa (z:=(0,[.sl ((if mS F a b=true then R++[(a,b)] else R).map gg)])) ?_ (aa (aw (ay (i:=b) (by omega))) rfl)
   refine bY (λk s=>s=[.sl (R.map gg),.bool (mS (F.take k) a b),I (k:Int)]) F.length 0 (zia _) rfl (λk hk s hJ=>?_) (λs hJ=>?_)
   ·subst hJ;left;refine⟨[.sl (R.map gg),.bool (mS (F.take (k+1)) a b),I ((k+1:Nat):Int)],?_,rfl⟩;obtain⟨hp0,hpk⟩:=hp F[k] (zra hk);have e1:mS (F.take (k+1)) a b=(mS (F.take k) a b||Gz F[k].2 a b F[k].2.length):=by
     unfold mS;rw[zqa hk,zGc];simp
    refine aa (z:=aq F) rfl (aa ag (aa ae (aH (by show((k:Int)<((aq F).length:Int));rw[aA];omega) ?_)))
    refine aa (z:=aq F) rfl (aa (z:=k) (by rw[aA];exact ap hk) (aa (cV hk) (aa (z:=.sl (ah F[k].2)) rfl ?_)))
    rw[e1];generalize mS (F.take k) a b=b0;obtain⟨p,hpp⟩:∃ p,F[k].2=p:=⟨_,rfl⟩;rw[hpp] at hp0 hpk ⊢;refine bY (λi s=>s=[.sl (R.map gg),.bool (b0||Gz p a b i),I (i:Int)]) p.length 0 (zia _) (by rw[show Gz p a b 0=false from rfl,Bool.or_false];rfl) (λi hi s hJ=>?_) (λs hJ=>?_)
    ·subst hJ;left;refine⟨[.sl (R.map gg),.bool (b0||Gz p a b (i+1)),I ((i+1:Nat):Int)],?_,rfl⟩;have hmod:(i+1)%p.length<p.length:=zUa _ hp0;have hrem:(((i:Int)+1).tmod (p.length:Int))=(((i+1)%p.length:Nat):Int):=by
      rw[show((i:Int)+1)=((i+1:Nat):Int) by omega];exact zmd ..
     have nb:∀ (x y:Nat) {X:Option Bool},X=(Option.bind (D.asSl (.sl (ah p))) λl26=>
       Option.bind (D.idx (I (i:Int)) (List.length l26)) λi27=>
       Option.bind (l26[i27]?) λx28=>
       Option.bind (D.truth (D.bool (D.beq x28 (I (x:Int))))) λb29=>
       if b29 then(Option.bind (D.bin .add (I (i:Int)) (D.int .i64 1)) λx30=>
       Option.bind (D.asSl (.sl (ah p))) λl31=>
       Option.bind (D.bin .rem x30 (D.int .i64 (List.length l31))) λx32=>
       Option.bind (D.asSl (.sl (ah p))) λl33=>
       Option.bind (D.idx x32 (List.length l33)) λi34=>
       Option.bind (l33[i34]?) λx35=>
       D.truth (D.bool (D.beq x35 (I (y:Int))))) else(some false))->X=some (decide (p.getD i 0=x)&&decide (p.getD ((i+1)%p.length) 0=y)):=λx y X hX=>by
      rw[hX];refine aa (z:=ah p) rfl (aa (z:=i) (by rw[ao];exact ap hi) (aa (iG hi) ?_))
      rw[bR];refine aa ae ?_;by_cases h:p.getD i 0=x
      ·refine aH h (aa (aw (ay (i:=i) (by omega))) (aa (z:=ah p) rfl (aa (z:=I (((i+1)%p.length:Nat):Int)) (by rw[show((ah p).length:Int)=(p.length:Int) by rw[ao],rW (by omega),hrem]) (aa (z:=ah p) rfl (aa (z:=(i+1)%p.length) (by rw[ao];exact ap hmod) (aa (iG hmod) ?_))))))
       rw[bR,ae,decide_eq_true h,zTb]
      ·refine aC h ?_;rw[decide_eq_false h,znd]
     refine aa (z:=ah p) rfl (aa ag (aa ae (aH (by show((i:Int)<((ah p).length:Int));rw[ao];omega) (aa ae ?_))))
     rw[E8];generalize Gz p a b i=b1;refine aa (z:=(b0||b1)||(decide (p.getD i 0=a)&&decide (p.getD ((i+1)%p.length) 0=b))) ?_ (aa ae (aa (z:=b0||(b1||OK p a b i)) ?_ (aa (aw (ay (i:=i) (by omega))) rfl)))
     ·cases hb:(b0||b1)
      ·rw[show(if false=true then some true else _)=_ from if_neg (by decide),zwd]
       exact nb a b rfl
      ·rfl
     ·rw[<-Bool.or_assoc];unfold OK;rw[<-Bool.or_assoc];cases hb:(b0||b1||(decide (p.getD i 0=a)&&decide (p.getD ((i+1)%p.length) 0=b)))
      ·rw[show(if false=true then some true else _)=_ from if_neg (by decide),zwd]
       exact nb b a rfl
      ·rfl
    ·subst hJ;refine⟨(0,[.sl (R.map gg),.bool (b0||Gz p a b p.length)]),aa (z:=ah p) rfl (aa ag (aa ae (aC (by show ¬ ((p.length:Int)<((ah p).length:Int));rw[ao];omega) rfl))),?_⟩
     exact aa (aw (ay (i:=k) (by omega))) rfl
   ·subst hJ;rw[zKa];refine⟨(0,[.sl (R.map gg),.bool (mS F a b)]),?_,?_⟩
    ·exact aa (z:=aq F) rfl (aa ag (aa ae (aC (by show ¬ ((F.length:Int)<((aq F).length:Int));rw[aA];omega) rfl)))
    ·refine aa (z:=mS F a b) ae ?_;cases mS F a b
     ·rfl
     ·rw[if_pos rfl,if_pos rfl,if_pos (by show(R.map gg).length+1<=1073741824;rw[Fh];omega),<-Sl]
      rfl
  ·obtain⟨hab,rfl⟩:=hJ;refine⟨(0,[.sl ((M++lX F a l.length).map gg)]),?_,aa (aw (ay (i:=a) (by omega))) rfl⟩
   exact aa (z:=aS l) rfl (aa (z:=l.map af) rfl (aa ag (aa ae (aC (by show ¬ ((l.length:Int)<((l.map af).length:Int));rw[aN];omega) rfl))))
 ·subst hJ;refine⟨(0,[.sl ((nS F l.length l.length).map gg)]),?_,rfl⟩;exact aa (z:=aS l) rfl (aa (z:=l.map af) rfl (aa ag (aa ae (aC (by show ¬ ((l.length:Int)<((l.map af).length:Int));rw[aN];omega) rfl))))
end Sy
end
noncomputable section
namespace Sy
open Go Go.Proofs Geo
def Ik{a b:Int}(h:a<=b){v:V}(hv:bd a v):bd b v:=by
 unfold bd at *;omega
def EQ{β:Type}{p:Prop}[Decidable p]{A B:Option β}{Y:β->Prop}(h:p)(hA:∃ y,A=some y/\Y y):∃ y,(if p then A else B)=some y/\Y y:=by rw[if_pos h];exact hA
def yv{β:Type}{A B:Option β}{Y:β->Prop}(h:∃ y,B=some y/\Y y):∃ y,(if((1,[]):Nat×List D).1=0 then A else B)=some y/\Y y:=by rw[if_neg (by decide)];exact h
def MW(n:Nat){l:List V}(h:Hul l)(hb:∀ x∈l,bd 4096 x):∃ E:List V,cA (n+10) 377 [be l]=some (.sl (E.map af))/\E.length<=4096/\∀ x∈E,bd 8192 x:=by
 suffices h:∃ y,cA (n+10) 377 [be l]=some y/\∃ E:List V,y=.sl (E.map af)/\E.length<=4096/\∀ x∈E,bd 8192 x by
  obtain⟨y,h,E,rfl,k⟩:=h;exact⟨E,h,k⟩
 rw[U7];delta H1 qG qB qX qL qV qW qZ iL iR Jn;obtain⟨L,poly,hL,hP,hF,_,h19⟩:=VE h.bd h.len h.srt;have hlen:=h.len;have hp:∀ f∈(L.map λq=>(q,poly q)),0<f.2.length/\f.2.length<=1000000:=λf hf=>by
  obtain⟨h1,h2,_⟩:=hF.2 f hf;omega
 have h22:=XD (n+7) (by omega) (F:=L.map λq=>(q,poly q)) (by have:=hF.1;omega) hp (h19 n)
 obtain⟨A,hA⟩:∃ A,nS (L.map λq=>(q,poly q)) l.length l.length=A:=⟨_,rfl⟩;have hAl:A.length<=4096:=by
  rw[<-hA];refine zAa (xQ _ _ _) ?_;exact z2a hlen hlen
 have hAm:∀ e∈A,e.1<l.length/\e.2<l.length:=λe he=>by
  rw[<-hA] at he;obtain⟨h1,h2,_⟩:=Fl.1 he;exact⟨h1,h2⟩
 rw[hA] at h22;have aE:(A.map gg).length=A.length:=zta ..;have app:∀ (E:List V) (x:V),E.map af++[af x]=(E++[x]).map af:=λE x=>by simp
 refine ab h22 ?_;refine eI (λi s=>∃ E:List V,s=[.sl (E.map af),I (i:Int)]/\E.length=i/\∀ x∈E,bd 8192 x) A.length 0 (zia _) ⟨[],rfl,rfl,by simp⟩ (λi hi s hJ=>?_) (λs hJ=>?_)
 ·obtain⟨E,rfl,hE,hEb⟩:=hJ;obtain⟨m1,m2⟩:=hAm _ (zra hi);have gE:(A.map gg)[i]?=some (gg A[i]):=by simp[hi]
  have b1:=hb _ (zra m1);have b2:=hb _ (zra m2);refine ab (z:=A.map gg) rfl (ab ag (ab ae (bV (by show(i:Int)<((A.map gg).length:Int);rw[aE];omega) ?_)))
  refine ab (z:=aS l) rfl (ab (z:=A.map gg) rfl (ab (z:=i) (by rw[aE];exact ap hi) (ab gE (ab (z:=I (A[i].2:Int)) rfl (ab (z:=l.map af) rfl (ab (z:=A[i].2) (by rw[aN];exact ap m2) (ab (sW m2) ?_)))))))
  refine ab (z:=aS l) rfl (ab (z:=A.map gg) rfl (ab (z:=i) (by rw[aE];exact ap hi) (ab gE (ab (z:=I (A[i].1:Int)) rfl (ab (z:=l.map af) rfl (ab (z:=A[i].1) (by rw[aN];exact ap m1) (ab (sW m1) ?_)))))))
  refine ab (ui (n+8) b2 b1 (by decide)) ?_
  refine EQ (by show(E.map af).length+1<=1073741824;rw[zta];omega) ⟨.inl [.sl ((E++[V.sub l[A[i].2] l[A[i].1]]).map af),I ((i+1:Nat):Int)],?_,E++[V.sub l[A[i].2] l[A[i].1]],rfl,by simp[hE],λx hx=>?_⟩
  ·rw[<-app];exact aa (aD (a:=i) (b:=1) (by omega)) rfl
  ·rcases zDa.1 hx with hx|hx
   ·exact hEb x hx
   ·rw[zIa.1 hx];generalize l[A[i].2]=p at *;generalize l[A[i].1]=q at *;unfold bd at *;simp only[V.sub];omega
 ·obtain⟨E,rfl,hE,hEb⟩:=hJ;exact⟨.inr (0,[.sl (E.map af)]),aa (z:=A.map gg) rfl (aa ag (aa ae (aC (by show ¬ ((A.length:Int)<((A.map gg).length:Int));rw[aE];omega) rfl))),_,rfl,E,rfl,by omega,hEb⟩
def fG{a b:Int}(ha:a.natAbs<=8192)(hb:b.natAbs<=8192):(a*b).natAbs<=67108864:=by
 rw[zHa];exact z2a ha hb
def KE(n:Nat){a b c d:Int}(ha:a.natAbs<=8192)(hb:b.natAbs<=8192)(hc:c.natAbs<=8192)(hd:d.natAbs<=8192):cA (n+6) 395 [am a,am b,am c,am d]=some (am (a*b-c*d)):=by
 have m1:=fG ha hb;have m2:=fG hc hd;have i2:In (c*d):=cL (by simp only[inR];omega)
 rw[Ve];unfold H8;refine aa (LT (n+1) (by unfold Wd;omega) (by unfold Wd;omega)) (aa (LT (n+1) (by unfold Wd;omega) (by unfold Wd;omega)) (aa (z:=am (a*b-c*d)) ?_ rfl))
 rw[Vf];unfold H9;refine aa (Tf (n+1) i2) (aa (OE n (x:=a*b) (y:=-(c*d)) (by unfold Wd;omega) (by unfold Wd;omega)) ?_)
 rw[Int.sub_eq_add_neg]
def wj{k:Nat}{v:V}(h:bd (k:Int) v):v.x.natAbs<=k/\v.y.natAbs<=k/\v.z.natAbs<=k:=by
 unfold bd at h;omega
def S7(n:Nat){u v:V}(hu:bd 8192 u)(hv:bd 8192 v):cA (n+8) 379 [af u,af v]=some (kZ (V.cross u v)):=by
 obtain⟨u1,u2,u3⟩:=wj (k:=8192) hu;obtain⟨v1,v2,v3⟩:=wj (k:=8192) hv;rw[U9];unfold H3;refine aa (M4 (n+3) (by simp only[inR];omega) (by simp only[inR];omega) (by simp only[inR];omega)) (aa (M4 (n+3) (by simp only[inR];omega) (by simp only[inR];omega) (by simp only[inR];omega)) (aa (z:=kZ (V.cross u v)) ?_ rfl))
 rw[Vd];delta H7 qG;refine aa (z:=am u.y) rfl (aa (z:=am v.z) rfl (aa (z:=am u.z) rfl (aa (z:=am v.y) rfl (aa (KE n u2 v3 u3 v2) ?_))));refine aa (z:=am u.z) rfl (aa (z:=am v.x) rfl (aa (z:=am u.x) rfl (aa (z:=am v.z) rfl (aa (KE n u3 v1 u1 v3) ?_))));refine aa (z:=am u.x) rfl (aa (z:=am v.y) rfl (aa (z:=am u.y) rfl (aa (z:=am v.x) rfl (aa (KE n u1 v2 u2 v1) ?_))));rfl
def yf{u v:V}(hu:bd 8192 u)(hv:bd 8192 v):bd 134217728 (V.cross u v):=by
 obtain⟨u1,u2,u3⟩:=wj (k:=8192) hu;obtain⟨v1,v2,v3⟩:=wj (k:=8192) hv;have a1:=fG u2 v3;have a2:=fG u3 v2;have a3:=fG u3 v1;have a4:=fG u1 v3;have a5:=fG u1 v2;have a6:=fG u2 v1;unfold bd;simp only[V.cross];omega
def S6(n:Nat){w:V}(hw:bd 134217728 w):cA (n+5) 378 [kZ w]=some (af w):=by
 unfold bd at hw;rw[U8];delta H2 qG;refine aa (z:=am w.x) rfl (aa (CG n (by unfold Wd;omega)) (aa (z:=I w.x) rfl (aa (z:=.bool true) rfl ?_)))
 refine aa (z:=am w.y) rfl (aa (CG n (by unfold Wd;omega)) (aa (z:=I w.y) rfl (aa (z:=.bool true) rfl ?_)))
 exact aa (z:=am w.z) rfl (aa (CG n (by unfold Wd;omega)) (aa (z:=I w.z) rfl (aa (z:=.bool true) rfl rfl)))
def SZ(n:Nat){a b:List V}(ha:Hul a)(hb:Hul b)(ka:∀ x∈a,bd 4096 x)(kb:∀ x∈b,bd 4096 x):∃ v:Bool,cA (n+11) 363 [be a,be b]=some (.bool v):=by
 refine wG ?_;have hal:=ha.len;have hbl:=hb.len;have ha0:=ha.pos;have hb0:=hb.pos;rw[U0];delta HW qG qB qC qT qX qL qV qW qZ iL iR Jn;refine ab (z:=aS a) rfl ?_;refine BK (n+4) ha.bd (by omega) ha.srt (be a) (be b) (λF hF=>?_)
 refine ab (z:=aS b) rfl ?_;refine BK (n+4) hb.bd (by omega) hb.srt (be a) (be b) (λG hG=>?_)
 have lF:=hF.fok.len (by omega);have lG:=hG.fok.len (by omega)
 have hN:∀ f∈F++G,bd 549755813888 f.1.1:=λf hf=>by
  rcases zDa.1 hf with hf|hf
  ·exact Ar ha.bd (hF.fok.ok f hf).1
  ·exact Ar hb.bd (hG.fok.ok f hf).1
 have sep:∀ m,bd 549755813888 m->∃ v:Bool,cA (n+10) 376 [be a,be b,af m]=some (.bool v):=λm hm=>S5 (n+2) hm ka kb ha0 hb0 (by omega) (by omega)
 refine EQ (by show(aq F).length+(aq G).length<=1073741824;rw[aA,aA];omega) ?_
 refine eI (λi s=>s=[.sl (aq (F++G)),I (i:Int)]) (F++G).length 0 (zia _) (by simp[aq,D.els]) (λi hi s hJ=>?_) (λs hJ=>?_)
 ·subst hJ;obtain⟨v,hv⟩:=sep _ (hN _ (zra hi));refine ab ag (ab ae (bV (by show(i:Int)<((aq (F++G)).length:Int);rw[aA];omega) ?_))
  refine ab (z:=i) (by show D.idx (I (i:Int)) (aq (F++G)).length=_;rw[aA];exact ap hi) (ab (cV hi) (ab (z:=af (F++G)[i].1.1) rfl (ab hv (ab ae ?_))))
  cases v
  ·rw[zva] at hi;exact⟨.inl [.sl (aq (F++G)),I ((i+1:Nat):Int)],by rw[if_neg (by decide)];exact aa (aD (a:=i) (b:=1) (by omega)) rfl,rfl⟩
  ·exact⟨.inr (0,[.bool true]),rfl,.bool true,rfl,true,rfl⟩
 ·subst hJ;obtain⟨E1,e1,l1,b1⟩:=MW n ha ka;obtain⟨E2,e2,l2,b2⟩:=MW n hb kb;refine⟨.inr (1,[]),aa ag (aa ae (aC (by show ¬ (((F++G).length:Int)<((aq (F++G)).length:Int));rw[aA];omega) rfl)),?_⟩
  refine yv ?_;refine ab e1 (ab e2 ?_);refine eI (λi s=>s=[I (i:Int)]) E1.length 0 (zia _) rfl (λi hi s hJ=>?_) (λs hJ=>?_)
  ·subst hJ;refine ab (z:=E1.map af) rfl (ab ag (ab ae (bV (by show(i:Int)<((E1.map af).length:Int);rw[aN];omega) ?_)))
   refine eI (λk s=>s=[I (k:Int)]) E2.length 0 (zia _) rfl (λk hk s hK=>?_) (λs hK=>?_)
   ·subst hK;have u1:=b1 _ (zra hi);have u2:=b2 _ (zra hk);obtain⟨v,hv⟩:=sep _ (Ik (by decide) (yf u1 u2))
    refine ab (z:=E2.map af) rfl (ab ag (ab ae (bV (by show(k:Int)<((E2.map af).length:Int);rw[aN];omega) ?_)))
    refine ab (z:=E1.map af) rfl (ab (z:=i) (by rw[aN];exact ap hi) (ab (sW hi) (ab (z:=E2.map af) rfl (ab (z:=k) (by rw[aN];exact ap hk) (ab (sW hk) ?_)))))
    refine ab (S7 (n+2) u1 u2) (ab (S6 (n+5) (yf u1 u2)) (ab hv (ab ae ?_)));cases v
    ·exact⟨.inl [I ((k+1:Nat):Int)],by rw[if_neg (by decide)];exact aa (aD (a:=k) (b:=1) (by omega)) rfl,rfl⟩
    ·exact⟨.inr (0,[.bool true]),rfl,.inr (0,[.bool true]),rfl,.bool true,rfl,true,rfl⟩
   ·subst hK;refine⟨.inr (1,[]),aa (z:=E2.map af) rfl (aa ag (aa ae (aC (by show ¬ ((E2.length:Int)<((E2.map af).length:Int));rw[aN];omega) rfl))),.inl [I ((i+1:Nat):Int)],?_,rfl⟩
    rw[if_neg (by decide)]
    exact aa (aD (a:=i) (b:=1) (by omega)) rfl
  ·subst hJ;exact⟨.inr (1,[]),aa (z:=E1.map af) rfl (aa ag (aa ae (aC (by show ¬ ((E1.length:Int)<((E1.map af).length:Int));rw[aN];omega) rfl))),.bool false,rfl,false,rfl⟩
def Dk{b c:Bool}{X:Option Bool}(h:X=some c):(if b=true then some true else X)=some (b||c):=by cases b<;>simp[h]
structure BOk(b:Bdy):Prop where
 one:1<=b.P.length
 few:b.P.length<=3
 vs:∀ l∈b.P,l.length<=10
 hul:∀ l∈b.P,Hul l
 bd:∀ l∈b.P,∀ x∈l,bd 4096 x
 m0:1<=b.m0
 m1:b.m0<=b.m1
 m2:b.m1<=1099511627776
def SV(n:Nat)(b:Bdy)(hf:b.P.length<=3)(hv:∀ l∈b.P,l.length<=10):∃ e:Int,cA (n+12) 347 [iE b]=some (I e)/\(e=0->BOk b):=by
 suffices h:∃ y,cA (n+12) 347 [iE b]=some y/\∃ e:Int,y=I e/\(e=0->BOk b) by
  obtain⟨y,h,e,rfl,k⟩:=h;exact⟨e,h,k⟩
 rw[UT];delta HO qG qB qC qT qN qY qM qP qZ iL iR Jn;obtain⟨w,hw⟩:∃ w:Bool,cA (n+11) 361 [.str b.nm]=some (.bool w):=SX (n+9) b.nm;have gP:D.get (iE b) [1]=some (.sl (b.P.map be)):=rfl;refine ab (z:=.str b.nm) rfl ?_;refine ab (z:=.bool w) hw ?_;refine ab bv (ab ae ?_);cases w
 ·exact⟨I 5,rfl,5,rfl,λh=>by cases h⟩
 rw[if_neg (by decide)]
 refine ab gP (ab (z:=b.P.map be) rfl (ab ag (ab ae (ab (Dk (aa gP (aa (z:=b.P.map be) rfl (aa cn ae)))) (ab ae ?_)))));rw[ca];cases hq:(decide ((b.P.length:Int)<1)||decide ((b.P.length:Int)>8)) with
 | true=>exact⟨I 2,rfl,2,rfl,λh=>by cases h⟩
 | false=>
 rw[if_neg (by decide)]
 refine ab (z:=I b.m0) rfl (ab ag (ab ae (ab (Dk (aa (z:=I b.m1) rfl (aa (z:=I b.m0) rfl (aa ag ae)))) (ab ae (ab (Dk (aa (z:=I b.m1) rfl (aa cn ae))) (ab ae (ab (Dk (aa (z:=I b.r0) rfl (aa ag ae))) (ab ae (ab (Dk (aa (z:=I b.r1) rfl (aa (z:=I b.r0) rfl (aa ag ae)))) (ab ae (ab (Dk (aa (z:=I b.r1) rfl (aa cn ae))) (ab ae ?_))))))))))));cases hm:(decide (b.m0<1)||decide (b.m1<b.m0)||decide (b.m1>1099511627776)||decide (b.r0<0)||decide (b.r1<b.r0)||decide (b.r1>4000)) with
 | true=>exact⟨I 1,rfl,1,rfl,λh=>by cases h⟩
 | false=>
 rw[if_neg (by decide)]
 simp only[Bool.or_eq_false_iff,decide_eq_false_iff_not] at hq hm;refine eI (λi s=>s=[I (i:Int)]/\∀ l∈b.P.take i,Hul l/\∀ x∈l,bd 4096 x) b.P.length 0 (zia _) ⟨rfl,by simp⟩ (λi hi s hJ=>?_) (λs hJ=>?_)
 ·obtain⟨rfl,hJ⟩:=hJ;have hl:=hv _ (zra hi);refine ab gP (ab (z:=b.P.map be) rfl (ab ag (ab ae (bV (by show(i:Int)<((b.P.map be).length:Int);rw[ca];omega) ?_))))
  refine ab gP (ab (z:=b.P.map be) rfl (ab (z:=i) (by rw[ca];exact ap hi) (ab (An hi) ?_)))
  rcases SE (n+2) (l:=b.P[i]) (by omega) with⟨e,h1,h2⟩|⟨h1,h2⟩
  ·refine ab h1 (ab (z:=true) ?_ ⟨.inr (0,[I e]),rfl,I e,rfl,e,rfl,λh=>absurd h h2⟩);rw[show D.beq (I e) (D.int .i64 0)=decide (e=0) from bO,decide_eq_false h2];rfl
  ·obtain⟨v,h3,h4⟩:=SY (n+10) (l:=b.P[i]) (by omega)
   refine ab h1 (ab (z:=false) rfl ?_);rw[if_neg (by decide)]
   refine ab gP (ab (z:=b.P.map be) rfl (ab (z:=i) (by rw[ca];exact ap hi) (ab (An hi) (ab h3 (ab bv (ab ae ?_))))))
   cases v
   ·exact⟨.inr (0,[I 1]),rfl,I 1,rfl,1,rfl,λh=>by cases h⟩
   ·refine⟨.inl [I ((i+1:Nat):Int)],by rw[if_neg (by decide)];exact aa (aD (a:=i) (b:=1) (by omega)) rfl,rfl,?_⟩
    rw[zqa hi];intro l hl;rcases zDa.1 hl with hl|hl
    ·exact hJ l hl
    ·rw[zIa.1 hl];exact⟨h2,h4 rfl⟩
 ·obtain⟨rfl,hJ⟩:=hJ;rw[zKa] at hJ;refine⟨.inr (1,[]),aa gP (aa (z:=b.P.map be) rfl (aa ag (aa ae (aC (by show ¬ ((b.P.length:Int)<((b.P.map be).length:Int));rw[ca];omega) rfl)))),?_⟩
  refine yv ?_;refine eI (λi s=>s=[I (i:Int)]) b.P.length 0 (zia _) rfl (λi hi s hK=>?_) (λs hK=>?_)
  ·subst hK;refine ab gP (ab (z:=b.P.map be) rfl (ab ag (ab ae (bV (by show(i:Int)<((b.P.map be).length:Int);rw[ca];omega) ?_))))
   refine eI (λk s=>s=[I (k:Int)]) i 0 (zia _) rfl (λk hk s hK=>?_) (λs hK=>?_)
   ·subst hK;have hk':k<b.P.length:=by omega
    obtain⟨p1,p2⟩:=hJ _ (zra hk');obtain⟨q1,q2⟩:=hJ _ (zra hi);obtain⟨v,hv⟩:=SZ n p1 q1 p2 q2;refine ab ag (ab ae (bV (by show(k:Int)<(i:Int);omega) ?_))
    refine ab gP (ab (z:=b.P.map be) rfl (ab (z:=k) (by rw[ca];exact ap hk') (ab (An hk') ?_)))
    refine ab gP (ab (z:=b.P.map be) rfl (ab (z:=i) (by rw[ca];exact ap hi) (ab (An hi) (ab hv (ab bv (ab ae ?_))))))
    cases v
    ·exact⟨.inr (0,[I 150]),rfl,.inr (0,[I 150]),rfl,I 150,rfl,150,rfl,λh=>by cases h⟩
    ·exact⟨.inl [I ((k+1:Nat):Int)],by rw[if_neg (by decide)];exact aa (aD (a:=k) (b:=1) (by omega)) rfl,rfl⟩
   ·subst hK;refine⟨.inr (1,[]),aa ag (aa ae (aC (by show ¬ ((i:Int)<(i:Int));omega) rfl)),.inl [I ((i+1:Nat):Int)],?_,rfl⟩
    rw[if_neg (by decide)]
    exact aa (aD (a:=i) (b:=1) (by omega)) rfl
  ·subst hK;refine⟨.inr (1,[]),aa gP (aa (z:=b.P.map be) rfl (aa ag (aa ae (aC (by show ¬ ((b.P.length:Int)<((b.P.map be).length:Int));rw[ca];omega) rfl)))),I 0,rfl,0,rfl,λ_=>?_⟩
   exact⟨by omega,hf,hv,λl hl=>(hJ l hl).1,λl hl=>(hJ l hl).2,by omega,by omega,by omega⟩
def SQ(n:Nat)(b:Bdy)(hL:b.P.length<=9223372036854775807):∃ v:Bool,cA (n+13) 326 [iE b]=some (.bool v)/\(v=true->BOk b):=by
 obtain⟨v,h1,h2⟩:=SU (n+11) b hL;rw[UN];delta HI qT Jn;cases v
 ·exact⟨false,aa h1 (aa (z:=false) rfl (aa (z:=false) rfl rfl)),λh=>by cases h⟩
 ·obtain⟨k1,k2⟩:=h2 rfl;obtain⟨e,h3,h4⟩:=SV n b k1 k2;refine⟨decide (e=0),aa h1 (aa (z:=true) rfl (aa (z:=decide (e=0)) (ld (aa h3 ?_)) rfl)),λh=>h4 (of_decide_eq_true h)⟩;rw[show D.beq (I e) (D.int .i64 0)=decide (e=0) from bO];rfl
def SP(n:Nat)(b:Bdy)(hL:b.P.length<=9223372036854775807)(v w:V):∃ o:Bool,cA (n+14) 306 [iE b,af v,af w]=some (.bool o)/\(o=true->BOk b/\kq v=true/\kq w=true):=by
 obtain⟨o,h1,h2⟩:=SQ n b hL;rw[UK];delta HF qT;cases o
 ·exact⟨false,aa h1 (aa (z:=false) rfl (aa (z:=false) rfl (aa (z:=false) rfl (aa (z:=false) rfl rfl)))),λh=>by cases h⟩
 ·refine⟨kq v&&kq w,aa h1 (aa (z:=true) rfl (aa (z:=kq v) (ld (aa (MR (n+12) v) ae)) (aa ae (aa (z:=kq v&&kq w) ?_ rfl)))),λh=>?_⟩
  ·cases kq v
   ·rfl
   ·exact aa (MR (n+12) w) ae
  ·simp only[zaa] at h;exact⟨h2 rfl,h.1,h.2⟩
end Sy
end
noncomputable section
namespace Sy
open Go Go.Proofs Geo
end Sy
end
noncomputable section
namespace Sy
open Go Go.Proofs Geo
abbrev Po:=V×(Nat->Int)
def jf(L:List Po)(i:Nat):Int:=match L[i]? with|some p=>p.1.z|none=>0
end Sy
end
noncomputable section
namespace Sy
open Go Go.Proofs Geo
def yb(k:Nat)(f:Nat)(xs:List D):Option D:=if f=307 then sf (VF 2000) 17 307 xs else cA k f xs
def ED(k:Nat):iz Tryz.prog (yb k):=by
 intro f ptys rty xs y hs hy hw;unfold yb at hy;split at hy
 ·rename_i hf;exact si (C7 2000) 17 f ptys rty xs y hs (by rw[hf];exact hy) hw
 ·exact ya tq k f ptys rty xs y hs hy hw
def Gt{d:D}(h:wt K1 d):∃ v:V,d=af v:=by
 obtain⟨l,rfl,hl,h⟩:=h
 match l,hl with
 | [a,b,c],_=>
  obtain⟨x,rfl⟩:=h a (by simp)
  obtain⟨y,rfl⟩:=h b (by simp)
  obtain⟨z,rfl⟩:=h c (by simp)
  exact⟨⟨x,y,z⟩,rfl⟩
def Cv{α:Type}{t:Ty}{e:α->D}(he:∀ d,wt t d->∃ v,d=e v){d:D}(h:wt (.sl t) d):∃ l:List α,d=.sl (l.map e):=by
 obtain⟨l,rfl,h⟩:=h;have key:∀ l:List D,(∀ x∈l,wt t x)->∃ m:List α,l=m.map e:=by
  intro l
  induction l with
  | nil=>intro _;exact⟨[],rfl⟩
  | cons x l ih=>
   intro h;obtain⟨v,rfl⟩:=he x (h x (by simp))
   obtain⟨m,rfl⟩:=ih λy hy=>h y (by simp[hy])
   exact⟨v::m,rfl⟩
 obtain⟨m,rfl⟩:=key l h;exact⟨m,rfl⟩
def NN{d:D}(h:wt K2 d):∃ l:List V,d=aS l:=Cv (e:=af) (λd h=>Gt h) h
def NO{d:D}(h:wt K3 d):∃ l:List V,d=be l:=by
 obtain⟨l,rfl,d,l',rfl,h1,h2⟩:=h;have h2':l'=[]:=h2;subst h2';obtain⟨m,rfl⟩:=NN h1;exact⟨m,rfl⟩
def LC{d:D}(h:wt OA d):∃ P:List (List V),d=.sl (P.map be):=Cv (e:=be) (λd h=>NO h) h
def Ka{d:D}(h:wt K8 d):∃ a b:Int,d=.st [I a,I b]:=by
 obtain⟨l,rfl,hl,h⟩:=h
 match l,hl with
 | [a,b],_=>
  obtain⟨x,rfl⟩:=h a (by simp)
  obtain⟨y,rfl⟩:=h b (by simp)
  exact⟨x,y,rfl⟩
def LD{d:D}(h:wt gX d):∃ b:Bdy,d=iE b:=by
 obtain⟨l,rfl,d1,l1,rfl,h1,d2,l2,rfl,h2,d3,l3,rfl,h3,d4,l4,rfl,h4,h5⟩:=h;have h5':l4=[]:=h5;subst h5';obtain⟨s,rfl⟩:=h1;obtain⟨P,rfl⟩:=LC h2;obtain⟨m0,m1,rfl⟩:=Ka h3;obtain⟨r0,r1,rfl⟩:=Ka h4;exact⟨⟨s,P,m0,m1,r0,r1⟩,rfl⟩
def Tu{b:Bdy}(h:Fw (iE b)):b.P.length<=9223372036854775807:=by
 have:=h.2.1.1;rw[zta] at this;exact this
end Sy
end
noncomputable section
namespace Geo
open V
def zR(w x:V):Int:=dot (cross w x) (cross w x)
def xz{x:Int}(h:x*x=0):x=0:=by
 rcases zRb.1 h with h|h<;>exact h
def iD{x:V}(h:dot x x=0):x.x=0/\x.y=0/\x.z=0:=by
 have h1:=oQ x.x;have h2:=oQ x.y;have h3:=oQ x.z;simp only[dot] at h;exact⟨xz (by omega),xz (by omega),xz (by omega)⟩
def jD(w x:V):0<=zR w x:=jq _
def oy(w:V)(S:Nat->Nat->Int):Int:=
 dot w w*(S 0 0+S 1 1+S 2 2)-(w.x*(S 0 0*w.x+S 0 1*w.y+S 0 2*w.z)+w.y*(S 1 0*w.x+S 1 1*w.y+S 1 2*w.z)+w.z*(S 2 0*w.x+S 2 1*w.y+S 2 2*w.z))
def BS(w:V)(A B:Nat->Nat->Int):oy w (λi k=>A i k+B i k)=oy w A+oy w B:=by
 simp only[oy];grind
def E4(w:V):oy w (λ_ _=>0)=0:=by simp[oy]
def Ng(w p:V)(t:T3):Int:=jc t*(zR w p+zR w (add t.1 p)+zR w (add t.2.1 p)+zR w (add t.2.2 p)+zR w (add (add t.1 t.2.1) (add t.2.2 (smul 4 p))))
def Ji(p:V)(t:T3)(i k:Nat):Int:=cF i k t+5*cmp i p*pd k t+5*cmp k p*pd i t+20*cmp i p*cmp k p*jc t
def IP(w p:V)(t:T3):oy w (Ji p t)=Ng w p t:=by
 obtain⟨⟨a1,a2,a3⟩,⟨b1,b2,b3⟩,c1,c2,c3⟩:=t;obtain⟨p1,p2,p3⟩:=p;obtain⟨w1,w2,w3⟩:=w;simp only[oy,Ji,Ng,cF,pd,AN,sm,cmp,zR,dot,cross,add,smul,if_true,if_false,Nat.one_ne_zero,Nat.reduceEqDiff];generalize jc (⟨a1,a2,a3⟩,⟨b1,b2,b3⟩,⟨c1,c2,c3⟩)=v;grind
theorem BT(w p:V):∀ T:List T3,oy w (λi k=>aB (cF i k) T+5*cmp i p*aB (pd k) T+5*cmp k p*aB (pd i) T+20*cmp i p*cmp k p*aB jc T)=aB (Ng w p) T
 | []=>by simp[oy,aB]
 | t::T=>by
  have ih:=BT w p T;have e:(λi k=>aB (cF i k) (t::T)+5*cmp i p*aB (pd k) (t::T)+5*cmp k p*aB (pd i) (t::T)+20*cmp i p*cmp k p*aB jc (t::T)) =
    λi k=>Ji p t i k+(aB (cF i k) T+5*cmp i p*aB (pd k) T+5*cmp k p*aB (pd i) T+20*cmp i p*cmp k p*aB jc T):=by
   funext i k;simp only[aB,Ji];grind
  rw[e,BS,ih,IP];rfl
def EW{w p:V}{t:T3}(h:0<=jc t):0<=Ng w p t:=by
 have h1:=jD w p;have h2:=jD w (add t.1 p);have h3:=jD w (add t.2.1 p);have h4:=jD w (add t.2.2 p);have h5:=jD w (add (add t.1 t.2.1) (add t.2.2 (smul 4 p)));exact zwb h (by omega)
def IL{w p:V}{t:T3}(h:0<jc t)(hw:¬ (w.x=0/\w.y=0/\w.z=0)):0<Ng w p t:=by
 have h1:=jD w p;have h2:=jD w (add t.1 p);have h3:=jD w (add t.2.1 p);have h4:=jD w (add t.2.2 p);have h5:=jD w (add (add t.1 t.2.1) (add t.2.2 (smul 4 p)));rcases Decidable.em (0<zR w p+zR w (add t.1 p)+zR w (add t.2.1 p)+zR w (add t.2.2 p)+zR w (add (add t.1 t.2.1) (add t.2.2 (smul 4 p)))) with hp|h0
 ·exact zDb h hp
 ·exfalso;obtain⟨p1,p2,p3⟩:=iD (show zR w p=0 by omega)
  obtain⟨a1,a2,a3⟩:=iD (show zR w (add t.1 p)=0 by omega)
  obtain⟨b1,b2,b3⟩:=iD (show zR w (add t.2.1 p)=0 by omega)
  obtain⟨c1,c2,c3⟩:=iD (show zR w (add t.2.2 p)=0 by omega)
  have g1:gd w t.2.1 t.2.2=0:=by
   have e:gd w t.2.1 t.2.2=dot (V.sub (cross w (add t.2.1 p)) (cross w p)) t.2.2:=by simp only[gd,dot,cross,V.sub,add];grind
   rw[e];simp only[dot,V.sub,p1,p2,p3,b1,b2,b3];simp
  have g2:gd w t.2.2 t.1=0:=by
   have e:gd w t.2.2 t.1=dot (V.sub (cross w (add t.2.2 p)) (cross w p)) t.1:=by simp only[gd,dot,cross,V.sub,add];grind
   rw[e];simp only[dot,V.sub,p1,p2,p3,c1,c2,c3];simp
  have g3:gd w t.1 t.2.1=0:=by
   have e:gd w t.1 t.2.1=dot (V.sub (cross w (add t.1 p)) (cross w p)) t.2.1:=by simp only[gd,dot,cross,V.sub,add];grind
   rw[e];simp only[dot,V.sub,p1,p2,p3,a1,a2,a3];simp
  have key:∀ i,cmp i w=0:=λi=>by
   have:=wu i w t;rw[g1,g2,g3] at this;rcases zRb.1 (show jc t*cmp i w=0 by rw[this];simp) with h'|h'
   ·omega
   ·exact h'
  exact hw ⟨key 0,key 1,key 2⟩
section
variable{P:Nat->V}{N:Nat}(hl:∀ i j,i<j->j<N->aF (P i) (P j)){L:List (V×Int)}(hL:Facets P N L){poly:V×Int->List Nat}(hp:∀ q∈L,bE P N q.1 q.2 (poly q))
include hl hL hp
def C0{q0:V×Int}(hq0:q0∈L)(w:V) :
  0<=oy w (λi k=>aB (cF i k) (cT P L poly))/\(¬ (w.x=0/\w.y=0/\w.z=0)->0<oy w (λi k=>aB (cF i k) (cT P L poly))):=by
 have hF:=(hL.mem q0).1 hq0;obtain⟨_,z,hz,hlt⟩:=hF.supp;have hnn:∀ t∈cT P L poly,0<=jc (shift (V.neg (P z)) t):=λt ht=>by
  obtain⟨q,hq,ht⟩:=zJb.1 ht;obtain⟨a,b,ha,hb,e⟩:=rE hl hL hp hq ht (P z);have:=((hL.mem q).1 hq).supp.1 z hz;exact mD ha (by rw[e];exact zwb (zNa hb) (by omega))
 have h3:=iT hl hL hp hq0;have ht:(P ((poly q0).getD 0 0),P ((poly q0).getD 1 0),P ((poly q0).getD 2 0))∈pE P (poly q0) ((poly q0).length-2):=z5a.2 ⟨0,zJa.2 (by omega),rfl⟩
 obtain⟨a,b,ha,hb,e⟩:=rE hl hL hp hq0 ht (P z);have hv:=kH ha (by rw[e];exact zDb hb (by omega))
 have hmem:_∈cT P L poly:=zJb.2 ⟨q0,hq0,ht⟩;have eV:=wa hl hL hp (V.neg (P z));have eM:=λi=>Da hl hL hp i (V.neg (P z));have eS:=λi k=>DH hl hL hp i k (V.neg (P z));rw[fJ] at eV;simp only[fJ] at eM eS;have hc:∀ i,cmp i (V.neg (P z))=- cmp i (P z):=λi=>by simp only[cmp,V.neg];split<;>(try split)<;>rfl
 simp only[hc] at eM eS;have eA:(λi k=>aB (cF i k) (cT P L poly))=λi k=>aB (cF i k) ((cT P L poly).map (shift (V.neg (P z))))+5*cmp i (P z)*aB (pd k) ((cT P L poly).map (shift (V.neg (P z))))+5*cmp k (P z)*aB (pd i) ((cT P L poly).map (shift (V.neg (P z))))+20*cmp i (P z)*cmp k (P z)*aB jc ((cT P L poly).map (shift (V.neg (P z)))):=by
  funext i k;rw[eV,eM,eM,eS];grind
 rw[eA,BT,mn];exact⟨Cm λt h=>EW (hnn t h),λhw=>zF (λt h=>EW (hnn t h)) hmem (IL hv hw)⟩
end
end Geo
end
noncomputable section
namespace Sy
open Go Go.Proofs Geo
def Kn:D:=.st [xU,am 1]
def cl:Option Rat->D
 | some q=>dq q
 | none=>Kn
def OW(a:Option Rat):Prop:=∀ q,a=some q->Bl q
theorem OW.some{q:Rat}(h:OW (some q)):Bl q:=h q rfl
def dY{q:Rat}(h:Bl q):OW (some q):=λy e=>by cases e;exact h
def rz:OW none:=λy e=>by cases e
def nO:pa none:=λy e=>by cases e
def lP:Option Int->Option Int->Option Rat
 | some n,some d=>if d=0 then none else some (Rat.divInt n d)
 | _,_=>none
def wV{a b:Option Int}(ha:pa a)(hb:pa b):OW (lP a b):=by
 cases a<;>cases b<;>simp only[lP]<;>first|exact rz|skip
 split
 ·exact rz
 ·exact dY (er ha.some hb.some (by assumption))
def Bo(a b:Option Int):pa (zV a b):=by
 cases a<;>cases b<;>simp only[zV]<;>first|exact nO|exact y9 _
def ju(a b:Option Int):pa (mT a b):=by
 cases a<;>cases b<;>simp only[mT]<;>first|exact nO|exact y9 _
def FH{x:Int}(hx:In x)(g:Int):In (x/g):=Mo hx (Int.natAbs_ediv_le_natAbs x g)
def Mu(x y:Rat):Option Rat:=
 lP (zV (mT (some x.num) (some ((y.den:Int)/(Nat.gcd x.den y.den:Nat)))) (mT (some y.num) (some ((x.den:Int)/(Nat.gcd x.den y.den:Nat))))) (mT (some ((x.den:Int)/(Nat.gcd x.den y.den:Nat))) (some (y.den:Int)))
def fr:Option Rat->Option Rat->Option Rat
 | some x,some y=>Mu x y
 | _,_=>none
def I1(x y:Rat):Option Rat:=
 lP (mT (some (Rat.divInt x.num y.den).num) (some (Rat.divInt y.num x.den).num)) (mT (some ((Rat.divInt x.num y.den).den:Int)) (some ((Rat.divInt y.num x.den).den:Int)))
def dP:Option Rat->Option Rat->Option Rat
 | some x,some y=>I1 x y
 | _,_=>none
def KK(a b:Option Rat):Option Rat:=b.elim none λy=>dP a (lP (some (y.den:Int)) (some y.num))
def rA(a b:Option Rat):OW (fr a b):=by
 cases a<;>cases b<;>simp only[fr]<;>first|exact rz|exact wV (Bo _ _) (ju _ _)
def oG(a b:Option Rat):OW (dP a b):=by
 cases a<;>cases b<;>simp only[dP]<;>first|exact rz|exact wV (ju _ _) (ju _ _)
def J1(x y:Rat):∃ g a b:Nat,g=Nat.gcd x.den y.den/\0<g/\x.den=g*a/\y.den=g*b/\0<a/\0<b/\(x.den:Int)/(Nat.gcd x.den y.den:Nat)=a/\(y.den:Int)/(Nat.gcd x.den y.den:Nat)=b:=by
 obtain⟨g,hg⟩:∃ g,g=Nat.gcd x.den y.den:=⟨_,rfl⟩;have hxp:=x.den_pos;have hyp:=y.den_pos;have gp:0<g:=by rw[hg];exact Nat.gcd_pos_of_pos_left _ hxp
 obtain⟨a,ha⟩:g ∣ x.den:=hg ▸ zhb _ _;obtain⟨b,hb⟩:g ∣ y.den:=hg ▸ zub _ _;have g0:(g:Int)≠0:=by omega
 refine⟨g,a,b,hg,gp,ha,hb,Nat.pos_of_ne_zero λh=>by rw[h] at ha;omega,Nat.pos_of_ne_zero λh=>by rw[h] at hb;omega,?_,?_⟩
 ·rw[<-hg,ha,zMa];exact zZa _ g0
 ·rw[<-hg,hb,zMa];exact zZa _ g0
def oF{x y:Int}(h:In (x*y)):mT (some x) (some y)=some (x*y):=eY h
def Ig{x y:Int}(h:In (x+y)):zV (some x) (some y)=some (x+y):=eY h
def jN{x y:Rat}(hf:fitA x y):fr (some x) (some y)=some (x+y):=by
 obtain⟨f1,f2⟩:=hf;obtain⟨g,a,b,hg,gp,ha,hb,a0,b0,ea,eb⟩:=J1 x y;have ha':a<=x.den:=by rw[ha];exact zsb _ gp
 have hb':b<=y.den:=by rw[hb];exact zsb _ gp
 have m1:x.num.natAbs*b<=x.num.natAbs*y.den:=zWa _ hb';have m2:y.num.natAbs*a<=y.num.natAbs*x.den:=zWa _ ha';have m3:a*y.den<=x.den*y.den:=zxa _ ha';have i1:In (x.num*b):=bq.2 (by rw[zHa,zwa];omega)
 have i2:In (y.num*a):=bq.2 (by rw[zHa,zwa];omega)
 have i3:In (x.num*b+y.num*a):=bq.2 (by
  have:=zIc (x.num*b) (y.num*a);rw[zHa,zHa,zwa,zwa] at this;omega)
 have i4:In ((a:Int)*y.den):=bq.2 (by rw[<-zMa,zwa];omega)
 have hne:(a:Int)*y.den≠0:=by
  have:0<a*y.den:=Nat.mul_pos a0 y.den_pos;rw[<-zMa];omega
 simp only[fr,Mu,ea,eb];rw[oF i1,oF i2,Ig i3,oF i4];simp only[lP];rw[if_neg hne,DQ ha hb hne]
def Ay(x y:Rat):Rat.divInt x.num y.den*Rat.divInt y.num x.den=x*y:=by
 conv=>rhs;rw[<-zob x,<-zob y]
 rw[zEb,zEb,zHc (y.den:Int)]
def lS{x y:Rat}(hf:fitM x y):dP (some x) (some y)=some (x*y):=by
 obtain⟨f1,f2⟩:=hf;obtain⟨p1,p2⟩:=il x.num (bT y);obtain⟨q1,q2⟩:=il y.num (bT x);rw[zwa] at p2 q2;have e:=Ay x y;simp only[dP,I1];generalize Rat.divInt x.num y.den=P at *;generalize Rat.divInt y.num x.den=Q at *;have i1:In (P.num*Q.num):=bq.2 (by rw[zHa];exact zGa (z2a p1 q1) f1)
 have i2:In ((P.den:Int)*Q.den):=bq.2 (by
  rw[<-zMa,zwa];exact zGa (z2a p2 q2) (by rw[zEa];exact f2))
 rw[oF i1,oF i2];simp only[lP];rw[if_neg (Int.mul_ne_zero (bT P) (bT Q)),<-zEb,zob,zob,e]
def ME(n:Nat):cA (n+1) 139 [xU]=some (.bool true):=by
 rw[NH];delta Eb qG qB qC qT qN qZ iL iR Jn;refine bc (λi s=>s=[.bool true,I (i:Int)]) 16 0 (zia _) rfl (λi hi s hJ=>?_) (λs hJ=>?_)
 ·subst hJ;left;refine⟨_,?_,rfl⟩;refine aa ag (aa ae (aH (by show(i:Int)<16;omega) (aa ae (aa (z:=true) ?_ (aa (aw (ay (i:=i) (by omega))) rfl)))))
  rw[if_pos rfl];refine aa (ap hi) (aa (z:=.int .u32 0) ?_ rfl);have hg:D.get xU [2,i]=D.get (LM 0) [i]:=rfl;rw[hg,bn _ hi,lE]
 ·subst hJ;refine⟨(0,[.bool true]),aa ag (aa ae (aC (by decide) rfl)),?_⟩
  exact aa (z:=.bool true) rfl (aa (z:=true) rfl (ld (aa (z:=true) rfl (aa (z:=true) rfl rfl))))
def xZ(n:Nat){a:Option Int}(ha:pa a):cA (n+2) 76 [c6 a]=some (.bool a.isSome):=by
 cases a with
 | some x=>exact se n ha.some
 | none=>rw[VL];delta Mj qG qT;exact aa (ME n) (aa (z:=true) rfl (aa (z:=false) rfl rfl))
def J9(n:Nat){a:Option Int}(ha:pa a):∃ w b,cA (n+3) 124 [c6 a]=some (.tup [I w,.bool b])/\(b=true->a.isSome=true):=by
 cases a with
 | some x=>
  obtain⟨w,b,h,_⟩:=zM n ha.some;exact⟨w,b,h,λ_=>rfl⟩
 | none=>
  refine⟨0,false,?_,λh=>by cases h⟩
  rw[Lx];delta Cw qG qB qC qT qN qZ iL iR Jn;exact aa (xZ n ha) (aa (z:=.bool true) rfl (aa (z:=true) rfl (aa (z:=true) rfl (aa (z:=true) rfl rfl))))
def AF{n f:Nat}{a b:Option Int}{e:Option Int->D}(h:(a.isSome&&b.isSome)=false)(hb:cA n f [e b]=some (.bool b.isSome)) :
  (if(!a.isSome)=true then some true else Option.bind (cA n f [e b]) λr=>Option.bind (D.un .not r) λx=>D.truth x)=some true:=by
 cases hA:a.isSome with
 | false=>rfl
 | true=>
  rw[hA] at h;have:b.isSome=false:=by simpa using h
  rw[if_neg (by decide),hb,this];rfl
def Tg(n:Nat){a b:Option Int}(ha:pa a)(hb:pa b):cA (n+4) 89 [c6 a,c6 b]=some (c6 (mT a b)):=by
 rcases fX (a:=a) (b:=b) with h|⟨x,y,rfl,rfl⟩
 ·have e:mT a b=none:=by cases a<;>cases b<;>simp at h<;>rfl
  rw[e,Vj];delta LK qG qB qT qN;obtain⟨w1,b1,h1,k1⟩:=J9 n ha;obtain⟨w2,b2,h2,k2⟩:=J9 n hb;have hb':(b1&&b2)=false:=by
   cases b1<;>cases b2<;>first|rfl|(rw[k1 rfl,k2 rfl] at h;cases h)
  refine aa h1 (aa (z:=I w1) rfl (aa (z:=.bool b1) rfl (aa h2 (aa (z:=I w2) rfl (aa (z:=.bool b2) rfl (aa (z:=b1) rfl (aa (z:=false) (by cases b1<;>cases b2<;>simp at hb'<;>rfl) (aa (z:=false) rfl (aa (z:=false) rfl (aa (z:=false) rfl (aa (z:=false) rfl (aa (z:=false) rfl ?_))))))))))))
  rw[if_neg (by decide)]
  refine aa (xZ (n+1) ha) (aa bv (aa ae (aa (AF h (xZ (n+1) hb)) (aa (z:=true) rfl (ld (aa (Kx (n+2)) rfl))))))
 ·exact EB n ha.some hb.some
def Te(n:Nat):cA (n+5) 84 []=some Kn:=by
 rw[Yt];unfold Ou;exact aa (Kx (n+3)) (aa (Kz n) rfl)
def S8(n:Nat){a b:Option Int}(ha:pa a)(hb:pa b):cA (n+6) 37 [c6 a,c6 b]=some (cl (lP a b)):=by
 rcases fX (a:=a) (b:=b) with h|⟨x,d,rfl,rfl⟩
 ·have e:lP a b=none:=by cases a<;>cases b<;>simp at h<;>rfl
  rw[e,U4];delta LH qC qT qN Jn;exact aa (xZ (n+3) ha) (aa bv (aa ae (aa (AF h (xZ (n+3) hb)) (aa (z:=true) rfl (aa (z:=true) rfl (aa (z:=true) rfl (ld (aa (Te n) rfl))))))))
 ·by_cases hd:d=0
  ·subst hd;rw[U4];delta LH qC qT qN Jn;refine aa (xZ (n+3) ha) (aa bv (aa (z:=false) rfl (aa (z:=false) ?_ (aa (z:=false) rfl (aa (z:=true) ?_ (aa (z:=true) rfl (ld (aa (Te n) rfl))))))))
   ·rw[if_neg (by decide)];exact aa (xZ (n+3) hb) (aa bv rfl)
   ·rw[if_neg (by decide)];exact aa (LR (n+2) hb.some) rfl
  ·have e:lP (some x) (some d)=some (Rat.divInt x d):=by simp only[lP];rw[if_neg hd]
   rw[e];exact LQ (n+1) ha.some hb.some hd
def M5(n:Nat){x y:Int}(hx:In x)(hy:In y):cA (n+4) 89 [am x,am y]=some (c6 (mT (some x) (some y))):=Tg n (a:=some x) (b:=some y) (bI hx) (bI hy)
def CH(n:Nat){a:Option Rat}(ha:OW a):cA (n+5) 88 [cl a]=some (.bool a.isSome):=by
 cases a with
 | some q=>exact OI n ha.some
 | none=>
  rw[VP];delta Mn qG qC qT qN Jn;exact aa (z:=xU) rfl (aa (xZ (n+2) (a:=none) nO) (aa (z:=.bool true) rfl (aa (z:=true) rfl (aa (z:=true) rfl (aa (z:=true) rfl rfl)))))
def jI{a b:Option Rat}:(a.isSome&&b.isSome)=false\/∃ x y,a=some x/\b=some y:=by
 cases a<;>cases b<;>simp
def xd{n f:Nat}{a b:Option Rat}(h:(a.isSome&&b.isSome)=false)(hb:cA n f [cl b]=some (.bool b.isSome)) :
  (if(!a.isSome)=true then some true else Option.bind (cA n f [cl b]) λr=>Option.bind (D.un .not r) λx=>D.truth x)=some true:=by
 cases hA:a.isSome with
 | false=>rfl
 | true=>
  rw[hA] at h;have:b.isSome=false:=by simpa using h
  rw[if_neg (by decide),hb,this];rfl
def KV{x y:Rat}(hx:Bl x):In ((Nat.gcd x.den y.den:Nat):Int):=fP.2 (zGa (Nat.gcd_le_left _ x.den_pos) (fP.1 hx.2))
def wX{x d:Int}(h:d≠0):lP (some x) (some d)=some (Rat.divInt x d):=by simp only[lP];rw[if_neg h]
def S9(n:Nat){a b:Option Rat}(ha:OW a)(hb:OW b):cA (n+7) 38 [cl a,cl b]=some (cl (dP a b)):=by
 rcases jI (a:=a) (b:=b) with h|⟨x,y,rfl,rfl⟩
 ·have e:dP a b=none:=by cases a<;>cases b<;>simp at h<;>rfl
  rw[e,VJ];delta Mh qG qT qN;exact aa (CH (n+1) ha) (aa bv (aa ae (aa (xd h (CH (n+1) hb)) (aa (z:=true) rfl (ld (aa (Te (n+1)) rfl))))))
 ·have hx:=ha.some;have hy:=hb.some;rw[VJ];delta Mh qG qT qN;refine aa (CH (n+1) ha) (aa bv (aa (z:=false) rfl (aa (z:=false) ?_ (aa (z:=false) rfl ?_))))
  ·rw[if_neg (by decide)];exact aa (CH (n+1) hb) (aa bv rfl)
  rw[if_neg (by decide)]
  have r1:=er hx.1 hy.2 (bT y);have r2:=er hy.1 hx.2 (bT x);refine aa (z:=am x.num) rfl (aa (z:=am (y.den:Int)) rfl (aa (LQ (n+1) hx.1 hy.2 (bT y)) (aa (z:=am y.num) rfl (aa (z:=am (x.den:Int)) rfl (aa (LQ (n+1) hy.1 hx.2 (bT x)) ?_)))));simp only[dP,I1];generalize Rat.divInt x.num y.den=P at *;generalize Rat.divInt y.num x.den=Q at *;refine aa (z:=am P.num) rfl (aa (z:=am Q.num) rfl (aa (M5 (n+2) r1.1 r2.1) (aa (z:=am (P.den:Int)) rfl (aa (z:=am (Q.den:Int)) rfl (aa (M5 (n+2) r1.2 r2.2) ?_)))));exact aa (S8 n (ju _ _) (ju _ _)) rfl
end Sy
end
noncomputable section
namespace Sy
open Go Go.Proofs Geo
def xX(n:Nat){a:Option Int}(ha:pa a):cA (n+2) 128 [c6 a]=some (.bool a.isSome):=by
 cases a with
 | some x=>exact Es n ha.some
 | none=>rw[NF];delta D9 qG qN;exact aa (z:=.bool true) rfl (aa (z:=.bool false) rfl (aa (z:=false) rfl (aa (z:=false) rfl rfl)))
def Aa(n:Nat):cA (n+4) 130 []=some Kn:=by
 rw[T7];unfold G2;exact aa (CE (n+2)) (aa (KC n) rfl)
def M0(n:Nat){a b:Option Int}(ha:pa a)(hb:pa b):cA (n+1030) 62 [c6 a,c6 b]=some (cl (lP a b)):=by
 rcases fX (a:=a) (b:=b) with h|⟨x,d,rfl,rfl⟩
 ·have e:lP a b=none:=by cases a<;>cases b<;>simp at h<;>rfl
  rw[e,Vi];delta LJ qC qT qN Jn;exact aa (xX (n+1027) ha) (aa bv (aa ae (aa (AF h (xX (n+1027) hb)) (aa (z:=true) rfl (aa (z:=true) rfl (aa (z:=true) rfl (ld (aa (Aa (n+1025)) rfl))))))))
 ·by_cases hd:d=0
  ·subst hd;rw[Vi];delta LJ qC qT qN Jn;refine aa (xX (n+1027) ha) (aa bv (aa (z:=false) rfl (aa (z:=false) ?_ (aa (z:=false) rfl (aa (z:=true) ?_ (aa (z:=true) rfl (ld (aa (Aa (n+1025)) rfl))))))))
   ·rw[if_neg (by decide)];exact aa (xX (n+1027) hb) (aa bv rfl)
   ·rw[if_neg (by decide)];exact aa (Et (n+1026) hb.some) rfl
  ·rw[wX hd];exact JO n ha.some hb.some hd
def EA(n:Nat){x y:Int}(hx:In x)(hy:In y):cA (n+3) 61 [am x,am y]=some (c6 (mT (some x) (some y))):=VA n (a:=some x) (b:=some y) (bI hx) (bI hy)
def Tc(n:Nat){x d:Int}(hx:In x)(hd:In d):cA (n+1030) 62 [am x,am d]=some (cl (lP (some x) (some d))):=M0 n (a:=some x) (b:=some d) (bI hx) (bI hd)
def kX(n:Nat){a:Option Rat}(ha:OW a):cA (n+1030) 136 [cl a]=some (.bool a.isSome):=by
 cases a with
 | some q=>exact KA n ha.some
 | none=>
  rw[NG];delta Ea qG qB qT Jn;exact aa (z:=xU) rfl (aa (xX (n+1027) (a:=none) nO) (aa (z:=false) rfl (aa (z:=false) rfl (aa (z:=false) rfl (aa (z:=false) rfl (aa (z:=false) rfl (aa (z:=false) rfl rfl)))))))
def Ew(n:Nat){a b:Option Rat}(ha:OW a)(hb:OW b):cA (n+1031) 173 [cl a,cl b]=some (cl (fr a b)):=by
 rcases jI (a:=a) (b:=b) with h|⟨x,y,rfl,rfl⟩
 ·have e:fr a b=none:=by cases a<;>cases b<;>simp at h<;>rfl
  rw[e,NI];delta Ec qG qT qN;exact aa (kX n ha) (aa bv (aa ae (aa (xd h (kX n hb)) (aa (z:=true) rfl (ld (aa (Aa (n+1026)) rfl))))))
 ·have hx:=ha.some;have hy:=hb.some;rw[NI];delta Ec qG qT qN;refine aa (kX n ha) (aa bv (aa (z:=false) rfl (aa (z:=false) ?_ (aa (z:=false) rfl ?_))))
  ·rw[if_neg (by decide)];exact aa (kX n hb) (aa bv rfl)
  rw[if_neg (by decide)]
  obtain⟨g,p,q,hg,gp,hp,hq,p0,q0,ep,eq⟩:=J1 x y;have gi:=KV (y:=y) hx;have g0:((Nat.gcd x.den y.den:Nat):Int)≠0:=by rw[<-hg];omega
  have h1:=Ky (n+1) hx.2 hy.2;rw[zwa,zwa] at h1;have h2:=Iv (n+1024) hx.2 gi g0 ⟨p,by rw[<-hg,hp,zMa]⟩
  have h3:=Iv (n+1024) hy.2 gi g0 ⟨q,by rw[<-hg,hq,zMa]⟩
  have ip:=FH hx.2 ((Nat.gcd x.den y.den:Nat):Int);have iq:=FH hy.2 ((Nat.gcd x.den y.den:Nat):Int);refine aa (z:=am (x.den:Int)) rfl (aa (z:=am (y.den:Int)) rfl (aa h1 ?_));refine aa (z:=am (x.den:Int)) rfl (aa h2 (aa (z:=am (y.den:Int)) rfl (aa h3 (aa (z:=am x.num) rfl (aa (EA (n+1027) hx.1 iq) (aa (z:=am y.num) rfl (aa (EA (n+1027) hy.1 ip) (aa (Vz (n+1026) (ju _ _) (ju _ _)) (aa (z:=am (y.den:Int)) rfl (aa (EA (n+1027) ip hy.2) ?_))))))))));exact aa (M0 n (Bo _ _) (ju _ _)) rfl
def uJ(n:Nat){a b:Option Rat}(ha:OW a)(hb:OW b):cA (n+1031) 174 [cl a,cl b]=some (cl (dP a b)):=by
 rcases jI (a:=a) (b:=b) with h|⟨x,y,rfl,rfl⟩
 ·have e:dP a b=none:=by cases a<;>cases b<;>simp at h<;>rfl
  rw[e,Ly];delta Cy qG qT qN;exact aa (kX n ha) (aa bv (aa ae (aa (xd h (kX n hb)) (aa (z:=true) rfl (ld (aa (Aa (n+1026)) rfl))))))
 ·have hx:=ha.some;have hy:=hb.some;rw[Ly];delta Cy qG qT qN;refine aa (kX n ha) (aa bv (aa (z:=false) rfl (aa (z:=false) ?_ (aa (z:=false) rfl ?_))))
  ·rw[if_neg (by decide)];exact aa (kX n hb) (aa bv rfl)
  rw[if_neg (by decide)]
  obtain⟨v1,v2⟩:=rD x.num (bT y);obtain⟨w1,w2⟩:=rD y.num (bT x);rw[zwa] at v2 w2;have r1:=er hx.1 hy.2 (bT y);have r2:=er hy.1 hx.2 (bT x);refine aa (z:=am x.num) rfl (aa (z:=am (y.den:Int)) rfl (aa (JO n hx.1 hy.2 (bT y)) (aa (z:=am y.num) rfl (aa (z:=am (x.den:Int)) rfl (aa (JO n hy.1 hx.2 (bT x)) ?_)))));simp only[dP,I1];generalize Rat.divInt x.num y.den=P at *;generalize Rat.divInt y.num x.den=Q at *;refine aa (z:=am P.num) rfl (aa (z:=am Q.num) rfl (aa (EA (n+1027) r1.1 r2.1) (aa (z:=am (P.den:Int)) rfl (aa (z:=am (Q.den:Int)) rfl (aa (EA (n+1027) r1.2 r2.2) ?_)))));have hpos:0<(P.den:Int)*Q.den:=by
   have:=Nat.mul_pos P.den_pos Q.den_pos;rw[<-zMa];omega
  have c1:Nat.Coprime P.num.natAbs P.den:=P.reduced;have c2:Nat.Coprime Q.num.natAbs Q.den:=Q.reduced;have c3:Nat.Coprime P.num.natAbs Q.den:=zAc v1 (zwc w2 x.reduced);have c4:Nat.Coprime Q.num.natAbs P.den:=zAc w1 (zwc v2 y.reduced);have hred:Nat.gcd (P.num*Q.num).natAbs ((P.den:Int)*Q.den).natAbs=1:=by
   rw[zHa,<-zMa,zwa];exact Nat.Coprime.mul_left (z7c c1 c3) (z7c c4 c2)
  obtain⟨z1,z2⟩:=sC hpos hred;simp only[mT,lj];by_cases t1:(P.num*Q.num).natAbs<fd
  ·rw[if_pos t1];by_cases t2:((P.den:Int)*Q.den).natAbs<fd
   ·rw[if_pos t2];refine aa (z:=.bool false) rfl (aa (z:=false) rfl (aa (z:=false) ?_ (aa (z:=false) rfl ?_)))
    ·rw[if_neg (by decide)]
     exact aa (z:=.bool false) rfl rfl
    rw[if_neg (by decide),wX (by omega)]
    show some (D.st [am (P.num*Q.num),am ((P.den:Int)*Q.den)])=some (D.st [am (Rat.divInt (P.num*Q.num) ((P.den:Int)*Q.den)).num,am ((Rat.divInt (P.num*Q.num) ((P.den:Int)*Q.den)).den:Int)]);rw[z1,z2]
   ·rw[if_neg t2];refine aa (z:=.bool false) rfl (aa (z:=false) rfl (aa (z:=true) ?_ (aa (z:=true) rfl (ld (aa (Aa (n+1026)) rfl)))));rw[if_neg (by decide)]
    exact aa (z:=.bool true) rfl rfl
  ·rw[if_neg t1];exact aa (z:=.bool true) rfl (aa (z:=true) rfl (aa (z:=true) rfl (aa (z:=true) rfl (ld (aa (Aa (n+1026)) rfl)))))
def MU(n:Nat){a b:Option Rat}(ha:OW a)(hb:OW b):cA (n+1032) 352 [cl a,cl b]=some (cl (KK a b)):=by
 rw[UW];delta HS qG qN;cases b with
 | none=>exact aa (kX (n+1) hb) (aa bv (aa (z:=true) rfl (ld (aa (Aa (n+1027)) rfl))))
 | some y=>
  refine aa (kX (n+1) hb) (aa bv (aa (z:=false) rfl ?_));rw[if_neg (by decide)]
  exact aa (z:=am (y.den:Int)) rfl (aa (z:=am y.num) rfl (aa (Tc (n+1) hb.some.2 hb.some.1) (aa (uJ n ha (wV (bI hb.some.2) (bI hb.some.1))) rfl)))
end Sy
end
noncomputable section
namespace Sy
open Go Go.Proofs Geo
def Nn{body:Bd}{k:Nat×List D->Option D}{y:D}{l0:List D}(x:Nat->D)(h0:l0.length=3)
  (hs:∀ i:Nat,i<3->∀ l:List D,l.length=3->(∀ j:Nat,i<=j->l[j]?=l0[j]?)->body [I (i:Int),.st l]=some (.inl [I ((i+1:Nat):Int),.st (l.set i (x i))]))
  (he:∀ l,body [I ((3:Nat):Int),.st l]=some (.inr (0,[.st l]))) (hk:k (0,[.st [x 0,x 1,x 2]])=some y):Option.bind (aT body [I ((0:Nat):Int),.st l0]) k=some y:=by
 match l0,h0 with
 | [a,b,c],_=>
 have s0:=hs 0 (by decide) [a,b,c] rfl (λj _=>rfl)
 have s1:=hs 1 (by decide) [x 0,b,c] rfl (λj hj=>by cases j with|zero=>omega|succ j=>rfl)
 have s2:=hs 2 (by decide) [x 0,x 1,c] rfl (λj hj=>by cases j with|zero=>omega|succ j=>cases j with|zero=>omega|succ j=>rfl)
 exact bZ s0 (bZ s1 (bZ s2 (g8 (he _) hk)))
abbrev WV:=Nat->Option Rat
def qr(v:WV):D:=.st [cl (v 0),cl (v 1),cl (v 2)]
def Ms(v:WV):Prop:=∀ i,OW (v i)
def uF(v:V):WV:=λi=>some (bC v i:Rat)
def EY{i:Nat}(h:i<3)(v:WV):D.get (qr v) [i]=some (cl (v i)):=by
 have:i=0\/i=1\/i=2:=by omega
 rcases this with rfl|rfl|rfl<;>rfl
def Be{v:V}(h:∀ i,inR (bC v i)):Ms (uF v):=λi=>dY (xO (cL (h i)))
def JM(n:Nat){v:V}(h:∀ i,inR (bC v i)):cA (n+1033) 135 [af v]=some (qr (uF v)):=Sv n (h 0) (h 1) (h 2)
def wd{a:Option Rat}(h:OW a):fr (some 0) a=a:=by
 cases a with
 | none=>rfl
 | some x=>
  have e:fr (some 0) (some x)=some (0+x):=jN ⟨by simpa using bq.1 h.some.1,by simpa using bq.1 h.some.2⟩
  rw[e,Rat.zero_add]
def pN(u v:WV):Option Rat:=fr (fr (dP (u 0) (v 0)) (dP (u 1) (v 1))) (dP (u 2) (v 2))
def wO(u v:WV):OW (pN u v):=rA _ _
def Ev(n:Nat){u v:WV}(hu:Ms u)(hv:Ms v):cA (n+1033) 134 [qr u,qr v]=some (cl (pN u v)):=by
 rw[Ub];delta G6 qB qC qJ qZ iL iR Jn;refine aa (KF n (eH 0)) ?_;have st:∀ i:Nat,i<3->∀ a,OW a->(Option.bind (D.bin .lss (List.getD [I (i:Int),cl a] 0 (.bool false)) (D.int .i64 3)) λx3=>Option.bind (D.truth x3) λb4=>
   if b4 then(Option.bind (D.idx (List.getD [I (i:Int),cl a] 0 (.bool false)) 3) λi5=>Option.bind (D.get (qr u) [i5]) λx6=>Option.bind (D.idx (List.getD [I (i:Int),cl a] 0 (.bool false)) 3) λi7=>Option.bind (D.get (qr v) [i7]) λx8=>
    Option.bind (cA (n+1032) 174 [x6,x8]) λr9=>Option.bind (cA (n+1032) 173 [(List.getD [I (i:Int),cl a] 1 (.bool false)),r9]) λr10=>Option.bind (D.bin .add (List.getD [I (i:Int),cl a] 0 (.bool false)) (D.int .i64 1)) λx11=>some (Sum.inl [x11,r10]))
   else(some (Sum.inr ((0:Nat),[(List.getD [I (i:Int),cl a] 1 (.bool false))]))))=some (Sum.inl [I ((i+1:Nat):Int),cl (fr a (dP (u i) (v i)))]):=λi hi a ha=>
  aa ag (aa ae (aH (by show(i:Int)<3;omega) (aa (ap hi) (aa (EY hi u) (aa (ap hi) (aa (EY hi v) (aa (uJ (n+1) (hu i) (hv i)) (aa (Ew (n+1) ha (oG _ _)) (aa (aD (a:=i) (b:=1) (by omega)) rfl)))))))))
 have z:OW (some (0:Rat)):=dY (xO (cL (eH 0)));have s0:=st 0 (by decide) (some 0) z
 have s1:=st 1 (by decide) (fr (some 0) (dP (u 0) (v 0))) (rA _ _)
 have s2:=st 2 (by decide) (fr (fr (some 0) (dP (u 0) (v 0))) (dP (u 1) (v 1))) (rA _ _)
 have e:=wd (oG (u 0) (v 0));unfold pN;rw[<-e];exact bZ s0 (bZ s1 (bZ s2 (g8 (aa ag (aa ae (aC (by decide) rfl))) rfl)))
def Lr{l:List D}{i:Nat}{v:D}(h:i<l.length):D.set (.st l) [i] v=some (.st (l.set i v)):=by
 simp only[D.set,zca h,zba]
end Sy
end
noncomputable section
namespace Sy
open Go Go.Proofs Geo
def nC(f:Nat->Option Rat)(m:Nat):List D:=(List.range m).map λj=>cl (f j)
def Fu(f:Nat->Option Rat)(m:Nat):nC f (m+1)=nC f m++[cl (f m)]:=by unfold nC;rw[zGb,zPb];rfl
def kF(f:Nat->Option Rat)(m:Nat):(nC f m).length=m:=by simp[nC]
def B9(f:Nat->Option Rat){m j:Nat}(h:j<m):(nC f m)[j]?=some (cl (f j)):=by simp[nC,h]
def eZ(f:Nat->Option Rat):D:=.st [I 3,I 3,.sl (nC f 9)]
def B4{h:List D->Option D}{a0 a1:D}(g:Nat->Option Rat)(hg:∀ i k:Nat,i<3->k<3->h [I (i:Int),I (k:Int),a0,a1]=some (cl (g (3*i+k)))) :
  tv aT h a0 a1 (I 3) (I 3)=some (0,[I 0,I 0,.sl [],I 0,I 0,.sl [],I 3,I 3,.sl (nC g 9)]):=by
 have e:(some (0,[I 0,I 0,.sl [],I 0,I 0,.sl [],I 3,I 3,.sl (nC g 9)]):Option (Nat×List D))=Option.bind (tv aT h a0 a1 (I 3) (I 3)) some->tv aT h a0 a1 (I 3) (I 3)=some (0,[I 0,I 0,.sl [],I 0,I 0,.sl [],I 3,I 3,.sl (nC g 9)]):=λe=>by
  rw[e];cases tv aT h a0 a1 (I 3) (I 3)<;>rfl
 refine e (Eq.symm ?_)
 delta tv qB qC qV qW qZ iL iR Jn
 refine bY (λi s=>s=[I (i:Int),a0,a1,I 0,I 0,.sl [],I 0,I 0,.sl [],I 3,I 3,.sl (nC g (3*i))]) 3 0 (by decide) rfl (λi hi s hJ=>?_) (λs hJ=>?_)
 ·subst hJ;left;refine⟨_,?_,rfl⟩;refine aa ag (aa ae (aH (by show(i:Int)<3;omega) ?_))
  refine bY (λk s=>s=[I (k:Int),a0,a1,I 0,I 0,.sl [],I 0,I 0,.sl [],I 3,I 3,.sl (nC g (3*i+k))]) 3 0 (by decide) rfl (λk hk s hK=>?_) (λs hK=>?_)
  ·subst hK;left;refine⟨_,?_,rfl⟩;refine aa ag (aa ae (aH (by show(k:Int)<3;omega) (aa (hg i k hi hk) ?_)))
   rw[if_pos (by show(nC g (3*i+k)).length+1<=1073741824;rw[kF];omega)]
   rw[show 3*i+(k+1)=(3*i+k)+1 by omega,Fu]
   exact aa (aD (a:=k) (b:=1) (by omega)) rfl
  ·subst hK;refine⟨_,aa ag (aa ae (aC (by decide) rfl)),?_⟩
   rw[show 3*(i+1)=3*i+3 by omega]
   exact aa (aD (a:=i) (b:=1) (by omega)) rfl
 ·subst hJ;exact⟨_,aa ag (aa ae (aC (by decide) rfl)),rfl⟩
def MG(f:Nat->Option Rat):Prop:=∀ j,j<9->OW (f j)/\(f j).isSome=true
def Ff{body:Bd}{r0:List D}(m:Nat)(hm:m<=1000)(hs:∀ i,i<m->body [I (i:Int)]=some (.inl [I ((i+1:Nat):Int)]))(he:body [I (m:Int)]=some (.inr (1,r0))){k:Nat×List D->Option D}{y:D}(hk:k (1,r0)=some y):Option.bind (aT body [I ((0:Nat):Int)]) k=some y:=
 bc (λi s=>s=[I (i:Int)]) m 0 (zia _) rfl (λi hi s hJ=>by subst hJ;exact .inl ⟨_,hs i hi,rfl⟩) (λs hJ=>by subst hJ;exact⟨_,he,hk⟩)
def Ez(n:Nat){f:Nat->Option Rat}(hf:MG f):cA (n+1031) 382 [.sl (nC f 9)]=some (.bool true):=by
 rw[Vb];delta H5 qB qC qN qS qX qZ iL iR Jn;refine aa (z:=nC f 9) rfl ?_;refine Ff 9 (by decide) (λi hi=>?_) ?_ ?_ (r0:=[])
 ·obtain⟨h1,h2⟩:=hf i hi;refine aa ag (aa ae (aH (by show(i:Int)<((nC f 9).length:Int);rw[kF];omega) (aa (z:=nC f 9) rfl (aa (z:=i) (by rw[kF];exact ap hi) (aa (B9 f hi) (aa (kX n h1) ?_))))))
  rw[h2];refine aa (z:=.bool false) rfl (aa (z:=false) rfl ?_);rw[if_neg (by decide)]
  exact aa (aD (a:=i) (b:=1) (by omega)) rfl
 ·exact aa ag (aa ae (aC (by show ¬ (((9:Nat):Int)<((nC f 9).length:Int));rw[kF];omega) rfl))
 ·rfl
def MX(n:Nat){f:Nat->Option Rat}(hf:MG f):cA (n+1032) 381 [eZ f]=some (I 0):=by
 rw[Va];delta H4 qG qB qC qT qP Jn;refine aa (z:=I 3) rfl (aa (z:=.bool false) rfl (aa (z:=false) rfl (aa (z:=false) rfl (aa (z:=false) rfl (aa (z:=false) rfl (aa (z:=false) rfl (aa (z:=false) rfl (aa (z:=false) rfl ?_))))))));rw[if_neg (by decide)]
 refine aa (z:=.sl (nC f 9)) rfl (aa (z:=nC f 9) rfl (aa (z:=I 3) rfl (aa (z:=I 3) rfl (aa (z:=I 9) rfl (aa (z:=false) ?_ (aa (z:=false) ?_ (aa (z:=false) rfl rfl)))))))
 ·rw[kF];rfl
 ·rw[if_neg (by decide)]
  have h:=Ez n hf;refine aa (z:=.sl (nC f 9)) rfl ?_;exact aa h rfl
def JN(n:Nat){l:List (Nat->Option Rat)}(hl:l.length<=10)(h:∀ f∈l,MG f):cA (n+1033) 366 [.sl (l.map eZ)]=some (.bool true):=by
 have ll:(l.map eZ).length=l.length:=zta ..;rw[U2];delta HX qB qC qT qS qX qZ iL iR Jn;refine aa (z:=l.map eZ) rfl ?_;refine Ff l.length (by omega) (λi hi=>?_) ?_ ?_ (r0:=[])
 ·have hg:(l.map eZ)[i]?=some (eZ l[i]):=by simp[hi]
  refine aa ag (aa ae (aH (by show(i:Int)<((l.map eZ).length:Int);rw[ll];omega) (aa (z:=l.map eZ) rfl (aa (z:=i) (by rw[ll];exact ap hi) (aa hg (aa (MX n (h _ (zra hi))) (aa (z:=false) rfl ?_)))))))
  rw[if_neg (by decide)]
  exact aa (aD (a:=i) (b:=1) (by omega)) rfl
 ·exact aa ag (aa ae (aC (by show ¬ ((l.length:Int)<((l.map eZ).length:Int));rw[ll];omega) rfl))
 ·rfl
def Ey(n:Nat)(f:Nat->Option Rat){i k:Nat}(hi:i<3)(hk:k<3):cA (n+1) 367 [eZ f,I (i:Int),I (k:Int)]=some (cl (f (3*i+k))):=by
 rw[U3];delta HY qG qB qX;have e:D.bin .mul (I (i:Int)) (I 3)=some (I ((3*i:Nat):Int)):=by
  have:=nk (a:=i) (b:=3) (by omega)
  rw[zEa i 3] at this;exact this
 exact aa (z:=.sl (nC f 9)) rfl (aa (z:=I 3) rfl (aa e (aa (aD (a:=3*i) (b:=k) (by omega)) (aa (z:=nC f 9) rfl (aa (z:=3*i+k) (by rw[kF];exact ap (by omega)) (aa (B9 f (by omega)) rfl))))))
def MS(n:Nat){f g:Nat->Option Rat}(hf:MG f)(hg:MG g)(hs:MG λm=>fr (f m) (g m)):cA (n+1034) 350 [eZ f,eZ g]=some (.tup [eZ (λm=>fr (f m) (g m)),I 0]):=by
 rw[UU];delta HP qG qT qN qW Jn;refine aa (JN n (l:=[f,g]) (by simp) (λx hx=>by simp at hx;rcases hx with rfl|rfl<;>assumption)) (aa (z:=.bool false) rfl (aa (z:=false) rfl (aa (z:=false) rfl (aa (z:=false) rfl (aa (z:=false) rfl (aa (z:=false) rfl ?_))))))
 rw[if_neg (by decide)]
 refine aa (z:=I 3) rfl (aa (z:=I 3) rfl (aa (z:=(0,[I 0,I 0,.sl [],I 0,I 0,.sl [],I 3,I 3,.sl (nC (λm=>fr (f m) (g m)) 9)])) ?_ ?_))
 ·refine B4 (h:=cA (n+1033) 407) (λm=>fr (f m) (g m)) λi k hi hk=>?_;rw[Vh];unfold Ib;have hm:3*i+k<9:=by omega
  exact aa (Ey (n+1031) f hi hk) (aa (Ey (n+1031) g hi hk) (aa (Ew (n+1) (hf _ hm).1 (hg _ hm).1) rfl))
 ·refine aa (Ez (n+2) hs) (aa (z:=.bool false) rfl (aa (z:=false) rfl ?_));rw[if_neg (by decide)]
  rfl
def MT(n:Nat){f:Nat->Option Rat}{x:Option Rat}(hf:MG f)(hx:OW x)(hx':x.isSome=true)(hs:MG λm=>dP (f m) x):cA (n+1034) 351 [eZ f,cl x]=some (.tup [eZ (λm=>dP (f m) x),I 0]):=by
 rw[UV];delta HR qG qT qN qW Jn;refine aa (JN n (l:=[f]) (by simp) (λx hx=>by simp at hx;subst hx;assumption)) (aa (z:=.bool false) rfl (aa (z:=false) rfl (aa (z:=false) ?_ (aa (z:=false) rfl ?_))))
 ·rw[if_neg (by decide)]
  refine aa (kX (n+3) hx) ?_;rw[hx'];rfl
 rw[if_neg (by decide)]
 refine aa (z:=I 3) rfl (aa (z:=I 3) rfl (aa (z:=(0,[I 0,I 0,.sl [],I 0,I 0,.sl [],I 3,I 3,.sl (nC (λm=>dP (f m) x) 9)])) ?_ ?_))
 ·refine B4 (h:=cA (n+1033) 402) (λm=>dP (f m) x) λi k hi hk=>?_;rw[Vg];unfold Ia;have hm:3*i+k<9:=by omega
  exact aa (Ey (n+1031) f hi hk) (aa (uJ (n+1) (hf _ hm).1 hx) rfl)
 ·refine aa (Ez (n+2) hs) (aa (z:=.bool false) rfl (aa (z:=false) rfl ?_));rw[if_neg (by decide)]
  rfl
end Sy
end
noncomputable section
namespace Sy
open Go Go.Proofs Geo
structure PMas(l:List V)(W:Int)(S:Nat->Nat->Int):Prop where
 wle:W.natAbs<=2^85
 sle:∀ i k,(S i k).natAbs<=2^125
 pos:0<W
 own:∃ L poly,∃ q∈L,Facets (pt l) l.length L/\(∀ q∈L,bE (pt l) l.length q.1 q.2 (poly q))/\S=λi k=>aB (cF i k) (cT (pt l) L poly)
 c23:∀ n,cA (n+10) 23 [be l]=some (am W)
 c28:∀ n,cA (n+1031) 28 [be l]=some (.st [I 3,I 3,.sl (c9 S 9)])
 Vv:∀ n,cA (n+10) 24 [be l]=some (am W)
 Vw:∀ n,cA (n+11) 29 [be l]=some (.st [I 3,I 3,.sl (c9 S 9)])
def Tx{l:List V}(h:Hul l):∃ W S,PMas l W S:=by
 obtain⟨L,poly,hL,hP,hF,h18,h19⟩:=VE h.bd h.len h.srt;have hT:=Ej h.bd hF;obtain⟨m,d,hq⟩:=h.ex;have hm:=(hL.mem (m,d)).2 hq;have h58:=λn=>XG n h.bd hF h19;have e:=Lv l L poly;refine⟨aB jc (ic l (L.map λq=>(q,poly q))),λi k=>aB (cF i k) (ic l (L.map λq=>(q,poly q))),kl hT,λi k=>fI i k hT,?_,⟨L,poly,(m,d),hm,hL,hP,by rw[e]⟩,λn=>c23 n h.bd hF (h18 _),λn=>c28 n h.bd hF h18,λn=>Vv hT h58 n,λn=>Vw hT h58 n⟩
 rw[e];exact JD h.srt hL hP hm
def Lj{P:List (List V)}(h:∀ l∈P,Hul l):∃ (W:Nat->Int) (S:Nat->Nat->Nat->Int),∀ i (hi:i<P.length),PMas P[i] (W i) (S i):=by
 have k:∀ i,∃ p:Int×(Nat->Nat->Int),∀ hi:i<P.length,PMas P[i] p.1 p.2:=λi=>by
  by_cases hi:i<P.length
  ·obtain⟨W,S,h⟩:=Tx (h _ (zra hi));exact⟨(W,S),λ_=>h⟩
  ·exact⟨(0,λ_ _=>0),λh=>absurd h hi⟩
 exact⟨λi=>(Classical.choose (k i)).1,λi=>(Classical.choose (k i)).2,λi hi=>Classical.choose_spec (k i) hi⟩
def lm(f:Nat->Int):Nat->Int
 | 0=>0
 | k+1=>lm f k+f k
theorem oT{f:Nat->Int}{B:Nat}:∀ {k},(∀ i,i<k->(f i).natAbs<=B)->(lm f k).natAbs<=k*B
 | 0,_=>by simp[lm]
 | k+1,h=>by
  have ih:=oT (k:=k) λi hi=>h i (by omega)
  have:=h k (by omega)
  simp only[lm];rw[zYa,zsc];omega
theorem zE{f:Nat->Int}:∀ {k},(∀ i,i<k->0<f i)->0<=lm f k/\(0<k->0<lm f k)
 | 0,_=>by simp[lm]
 | k+1,h=>by
  have ih:=zE (k:=k) λi hi=>h i (by omega)
  have:=h k (by omega)
  simp only[lm];omega
def g6(S:Nat->Nat->Nat->Int)(k:Nat):Nat->Nat->Int:=λa b=>lm (λi=>S i a b) k
def aM(S:Nat->Nat->Int)(m:Nat):Int:=if m/3=m%3 then -(S (m/3) (m%3))+(S 0 0+S 1 1+S 2 2) else -(S (m/3) (m%3))
def Ki(A B:Nat->Nat->Int)(m:Nat):aM (λa b=>A a b+B a b) m=aM A m+aM B m:=by
 unfold aM;dsimp only;split<;>omega
def Ei{S:Nat->Nat->Int}{k:Nat}(h:∀ i j,(S i j).natAbs<=2^k)(m:Nat):(aM S m).natAbs<=2^(k+2):=by
 have a:=h (m/3) (m%3);have b:=h 0 0;have c:=h 1 1;have d:=h 2 2;rw[zab,show(2:Nat)^2=4 from rfl];generalize (2:Nat)^k=T at *;unfold aM;split<;>omega
structure BMas(b:Bdy)(W:Int)(S:Nat->Nat->Int):Prop where
 wle:W.natAbs<=2^87
 sle:∀ i k,(S i k).natAbs<=2^127
 pos:0<W
def Mw{b:Bdy}(h:BOk b){W:Nat->Int}{S:Nat->Nat->Nat->Int}(hm:∀ i (hi:i<b.P.length),PMas b.P[i] (W i) (S i)):BMas b (lm W b.P.length) (g6 S b.P.length):=by
 have hf:=h.few;have p3:∀ k:Nat,3*2^k<=2^(k+2):=λk=>by rw[zab,show(2:Nat)^2=4 from rfl];omega
 have kk:∀ k T:Nat,b.P.length*2^k<=2^(k+2):=λk _=>zAa (zxa _ hf) (p3 k);refine⟨zAa (oT λi hi=>(hm i hi).wle) (kk 85 0),λa c=>zAa (oT λi hi=>(hm i hi).sle a c) (kk 125 0),(zE λi hi=>(hm i hi).pos).2 h.one⟩
def SW(n:Nat){b:Bdy}(h:BOk b){W:Nat->Int}{S:Nat->Nat->Nat->Int}(hm:∀ i (hi:i<b.P.length),PMas b.P[i] (W i) (S i)):cA (n+11) 353 [iE b]=some (am (lm W b.P.length)):=by
 have hf:=h.few;rw[UX];delta HT qG qB qC qS qX qZ iL iR Jn;refine aa (Bx (n+8) (eH 0)) (aa (z:=.sl (b.P.map be)) rfl (aa (z:=b.P.map be) rfl ?_));have ws:∀ k,k<=b.P.length->(lm W k).natAbs<=2^87:=λk hk=>by
  refine zAa (oT λi hi=>(hm i (by omega)).wle) ?_
  rw[show(2:Nat)^87=4*2^85 from(zab 2 2 85).symm ▸ rfl];exact zxa _ (by omega)
 refine bc (λi s=>s=[I (i:Int),am (lm W i)]) b.P.length 0 (zia _) rfl (λi hi s hJ=>?_) (λs hJ=>?_)
 ·subst hJ;left;refine⟨_,?_,rfl⟩;have hp:=hm i hi;exact aa ag (aa ae (aH (by show(i:Int)<((b.P.map be).length:Int);rw[ca];omega) (aa (z:=b.P.map be) rfl (aa (z:=i) (by rw[ca];exact ap hi) (aa (An hi) (aa (hp.c23 n) (aa (wo (n+6) (ff (by decide) (ws i (by omega))) (ff (by decide) hp.wle) (ff (k:=87) (by decide) (ws (i+1) (by omega)))) (aa (aD (a:=i) (b:=1) (by omega)) rfl))))))))
 ·subst hJ;exact⟨_,aa ag (aa ae (aC (by show ¬ ((b.P.length:Int)<((b.P.map be).length:Int));rw[ca];omega) rfl)),rfl⟩
def IE{a W:Int}{p q:Nat}(ha:a.natAbs<=2^p)(hW:W.natAbs<=2^q)(h0:W≠0)(hp:p<=500)(hq:q<=500):KK (some (a:Rat)) (some (W:Rat))=some (Rat.divInt a W):=by
 have e:KK (some (a:Rat)) (some (W:Rat))=dP (some (a:Rat)) (lP (some (((W:Rat).den:Nat):Int)) (some (W:Rat).num)):=rfl;rw[e,Rat.num_intCast,Rat.den_intCast,wX h0];have f1:rS (a:Rat) p 0:=eO ha;have f2:rS (Rat.divInt ((1:Nat):Int) W) 0 q:=bM (by simp) hW h0
 rw[lS (f1.fitM f2 (by omega) (by omega))]
 congr 1;rw[show(a:Rat)=Rat.divInt a 1 from(jp a).symm,zEb];simp
def jQ(S:Nat->Nat->Int)(W m0:Int)(j:Nat):Rat:=Rat.divInt (aM S j*(6*m0)) (120*W)
def E9{b:Bdy}(h:BOk b){W:Int}{S:Nat->Nat->Int}(hB:BMas b W S)(j:Nat):rS (jQ S W b.m0 j) 172 94:=by
 have hm0:=h.m0;have hm1:=h.m1;have hm2:=h.m2;refine bM (bz (i:=129) (j:=43) (Ei hB.sle j) (by rw[show(2:Nat)^43=8796093022208 from rfl];omega) (by decide)) (bz (i:=7) (j:=87) (by decide) hB.wle (by decide)) (by have:=hB.pos;omega)
def xy{S:Nat->Nat->Int}{k:Nat}(h:∀ i j,(S i j).natAbs<=2^k)(j:Nat):rS (Rat.divInt (aM S j) 120) (k+2) 7:=bM (Ei h j) (by decide) (by decide)
def xP{f:Nat->Rat}{p q:Nat}(h:∀ j,rS (f j) p q)(hp:p<=511)(hq:q<=511):MG λj=>some (f j):=λj _=>⟨dY ((h j).inR hp hq),rfl⟩
def SR(n:Nat){b:Bdy}(h:BOk b){W:Nat->Int}{S:Nat->Nat->Nat->Int}(hm:∀ i (hi:i<b.P.length),PMas b.P[i] (W i) (S i)) :
  cA (n+1035) 332 [iE b,dq (b.m0:Rat)]=some (eZ λj=>some (jQ (g6 S b.P.length) (lm W b.P.length) b.m0 j)):=by
 have hf:=h.few;have hone:=h.one;have hB:=Mw h hm;have hm0:=h.m0;have hm1:=h.m1;have hm2:=h.m2;rw[UP];delta HK qG qB qC qT qS qX qW qZ iL iR Jn;refine aa (z:=.sl (b.P.map be)) rfl (aa (z:=b.P.map be) rfl ?_);have sle:∀ k,k<=b.P.length->∀ a c,(g6 S k a c).natAbs<=2^127:=λk hk a c=>by
  refine zAa (oT λi hi=>(hm i (by omega)).sle a c) ?_
  rw[show(2:Nat)^127=4*2^125 from(zab 2 2 125).symm ▸ rfl];exact zxa _ (by omega)
 refine bc (λi s=>∃ M:D,s=[I (i:Int),I 0,I 0,.sl [],M]/\(0<i->M=eZ λj=>some (Rat.divInt (aM (g6 S i) j) 120))) b.P.length 0 (zia _) ⟨_,rfl,λh=>by omega⟩ (λi hi s hJ=>?_) (λs hJ=>?_)
 ·obtain⟨M,rfl,hM⟩:=hJ;left;have hp:=hm i hi;refine⟨[I ((i+1:Nat):Int),I 0,I 0,.sl [],eZ λj=>some (Rat.divInt (aM (g6 S (i+1)) j) 120)],?_,_,rfl,λ_=>rfl⟩;refine aa ag (aa ae (aH (by show(i:Int)<((b.P.map be).length:Int);rw[ca];omega) (aa (z:=(0,[I 0,I 0,.sl [],eZ λj=>some (Rat.divInt (aM (g6 S (i+1)) j) 120)])) ?_ ?_)))
  ·refine aa (z:=b.P.map be) rfl (aa (z:=i) (by rw[ca];exact ap hi) (aa (An hi) ?_))
   have e1:g6 S (i+1)=λa c=>g6 S i a c+S i a c:=rfl;have h28:=hp.c28 (n+3);by_cases h0:i=0
   ·subst h0;refine aa (z:=true) rfl (ld (aa h28 ?_));have e2:g6 S (0+1)=S 0:=by funext a c;simp[g6,lm]
    rw[e2];rfl
   ·refine aa (z:=false) ?_ ?_
    ·rw[show D.beq (List.getD [I (i:Int),I 0,I 0,.sl [],M] 0 (.bool false)) (D.int .i64 0)=decide ((i:Int)=0) from bO,decide_eq_false (by omega)];rfl
    rw[if_neg (by decide),hM (by omega)]
    have fa:∀ j,rS (Rat.divInt (aM (g6 S i) j) 120) 129 7:=λj=>xy (sle i (by omega)) j
    have fb:∀ j,rS (Rat.divInt (aM (S i) j) 120) 127 7:=λj=>xy hp.sle j;have fs:∀ j,rS (Rat.divInt (aM (g6 S (i+1)) j) 120) 129 7:=λj=>xy (sle (i+1) (by omega)) j
    have es:(λm=>fr (some (Rat.divInt (aM (g6 S i) m) 120)) (some (Rat.divInt (aM (S i) m) 120)))=λj=>some (Rat.divInt (aM (g6 S (i+1)) j) 120):=by
     funext j;rw[jN ((fa j).fitA (fb j)),pp (by decide),e1,Ki]
    have h350:=MS n (xP fa (by decide) (by decide)) (xP fb (by decide) (by decide)) (by rw[es];exact xP fs (by decide) (by decide))
    rw[es] at h350;refine aa h28 (aa h350 (aa (z:=eZ λj=>some (Rat.divInt (aM (g6 S (i+1)) j) 120)) rfl (aa (z:=I 0) rfl (aa (z:=false) rfl ?_))));rw[if_neg (by decide)]
    rfl
  ·exact(if_pos rfl).trans (aa (aD (a:=i) (b:=1) (by omega)) rfl)
 ·obtain⟨M,rfl,hM⟩:=hJ;rw[hM hone];refine⟨_,aa ag (aa ae (aC (by show ¬ ((b.P.length:Int)<((b.P.map be).length:Int));rw[ca];omega) rfl)),?_⟩
  generalize hSW:g6 S b.P.length=T at *;generalize hWW:lm W b.P.length=X at *;have m43:(6*b.m0).natAbs<=2^43:=by rw[show(2:Nat)^43=8796093022208 from rfl];omega
  have x0:X≠0:=by have:=hB.pos;omega
  have h174:=Tp (n+3) (a:=6) (b:=b.m0) (p:=3) (q:=41) (by decide) (by rw[show(2:Nat)^41=2199023255552 from rfl];omega) (by decide)
  have h353:=SW (n+1023) h hm;rw[hWW] at h353;have h352:=MU (n+2) (a:=some ((6*b.m0:Int):Rat)) (b:=some (X:Rat)) (dY ((eO m43).inR (by decide) (by decide))) (dY ((eO hB.wle).inR (by decide) (by decide)))
  rw[IE m43 hB.wle x0 (by decide) (by decide)] at h352
  have fa:∀ j,rS (Rat.divInt (aM T j) 120) 129 7:=λj=>xy hB.sle j;have fx:rS (Rat.divInt (6*b.m0) X) 43 87:=bM m43 hB.wle x0;have es:(λm=>dP (some (Rat.divInt (aM T m) 120)) (some (Rat.divInt (6*b.m0) X)))=λj=>some (jQ T X b.m0 j):=by
   funext j;rw[lS ((fa j).fitM fx),zEb];rfl
  have h351:=MT n (xP fa (by decide) (by decide)) (x:=some (Rat.divInt (6*b.m0) X)) (dY (fx.inR (by decide) (by decide))) rfl (by rw[es];exact xP (E9 h hB) (by decide) (by decide))
  rw[es] at h351;refine(if_neg (show ¬ ((1:Nat)=0) by decide)).trans ?_
  exact aa (KF (n+2) (eH 6)) (aa h174 (aa h353 (aa (MD (n+3) (ff (k:=87) (by decide) hB.wle)) (aa h352 (aa h351 (aa (z:=eZ λj=>some (jQ T X b.m0 j)) rfl (aa (z:=I 0) rfl rfl)))))))
end Sy
end
noncomputable section
namespace Sy
open Go Go.Proofs Geo
end Sy
end
noncomputable section
namespace Sy
open Go Go.Proofs Geo
def C9(f:Nat->Option Rat)(t:WV):WV:=λi=>pN (λj=>f (3*i+j)) t
def Lh(m0:Int)(f:Nat->Option Rat)(v w:V):Option Rat:=
 fr (dP (dP (some (m0:Rat)) (pN (uF v) (uF v))) (some (Rat.divInt 1 131072))) (dP (pN (uF w) (C9 f (uF w))) (some (Rat.divInt 1 2097152)))
def Jg(f:Nat->Option Rat){k:Nat}(h:k<3):D.cut (nC f 9) (3*k) (3*k+3)=some [cl (f (3*k)),cl (f (3*k+1)),cl (f (3*k+2))]:=by
 have:k=0\/k=1\/k=2:=by omega
 rcases this with rfl|rfl|rfl<;>rfl
def EV(n:Nat){d:Int}(hd:inR d)(h0:d≠0):cA (n+1031) 333 [I 1,I d]=some (dq (Rat.divInt 1 d)):=by
 rw[UQ];unfold HL;exact aa (Bx (n+1028) (eH 1)) (aa (Bx (n+1028) hd) (aa (JO n (cL (eH 1)) (cL hd) h0) rfl))
def BM{d:Int}(hd:inR d)(h0:d≠0):OW (some (Rat.divInt 1 d)):=dY (er (cL (eH 1)) (cL hd) h0)
def SS(n:Nat){l:List (Option Rat)}(hl:l.length<=1000000)(h:∀ x∈l,OW x):cA (n+1033) 334 [.sl (l.map cl)]=some (cl (l.foldl fr (some 0))):=by
 have ll:(l.map cl).length=l.length:=zta ..;have z:OW (some (0:Rat)):=dY (xO (cL (eH 0)));rw[UR];delta HM qB qC qS qX qZ iL iR Jn;refine aa (KF n (eH 0)) (aa (z:=l.map cl) rfl ?_);refine bc (λi s=>s=[I (i:Int),cl ((l.take i).foldl fr (some 0))]/\OW ((l.take i).foldl fr (some 0))) l.length 0 (zia _) ⟨rfl,z⟩ (λi hi s hJ=>?_) (λs hJ=>?_)
 ·obtain⟨rfl,ho⟩:=hJ;left;have e:(l.take (i+1)).foldl fr (some 0)=fr ((l.take i).foldl fr (some 0)) l[i]:=by
   rw[zqa hi,zrd];rfl
  have g:(l.map cl)[i]?=some (cl l[i]):=by simp[hi]
  refine⟨_,?_,rfl,by rw[e];exact rA _ _⟩
  rw[e];exact aa ag (aa ae (aH (by show(i:Int)<((l.map cl).length:Int);rw[ll];omega) (aa (z:=l.map cl) rfl (aa (z:=i) (by rw[ll];exact ap hi) (aa g (aa (Ew (n+1) ho (h _ (zra hi))) (aa (aD (a:=i) (b:=1) (by omega)) rfl)))))))
 ·obtain⟨rfl,ho⟩:=hJ;rw[zKa] at *;exact⟨_,aa ag (aa ae (aC (by show ¬ ((l.length:Int)<((l.map cl).length:Int));rw[ll];omega) rfl)),rfl⟩
def MG.row{f:Nat->Option Rat}(h:∀ j,OW (f j))(i:Nat):Ms (λj=>f (3*i+j)):=λj=>h _
def MP(n:Nat){b:Bdy}{f:Nat->Option Rat}{v w:V}(hm:inR b.m0)(h332:cA (n+1035) 332 [iE b,dq (b.m0:Rat)]=some (eZ f))(hf:∀ j,OW (f j))(hv:∀ i,inR (bC v i))(hw:∀ i,inR (bC w i)) :
  cA (n+1036) 309 [iE b,af v,af w]=some (cl (Lh b.m0 f v w)):=by
 rw[UL];delta HG qG qB qC qT qS qP qZ iL iR Jn;refine aa (z:=I b.m0) rfl (aa (KF (n+3) hm) (aa h332 (aa (z:=.sl (nC f 9)) rfl (aa (z:=nC f 9) rfl (aa (z:=false) (by rw[kF];rfl) ?_)))))
 rw[if_neg (by decide)]
 refine aa (JM (n+2) hw) ?_;refine Nn (l0:=[_,_,_]) (λi=>cl (C9 f (uF w) i)) rfl (λi hi l hl hj=>?_) (λl=>aa ag (aa ae (aC (by decide) rfl))) ?_
 ·have k0:D.bin .mul (D.int .i64 3) (I (i:Int))=some (I ((3*i:Nat):Int)):=nk (a:=3) (b:=i) (by omega)
  refine aa ag (aa ae (aH (by show(i:Int)<3;omega) (aa (z:=.sl (nC f 9)) rfl (aa k0 (aa k0 (aa (aD (a:=3*i) (b:=3) (by omega)) (aa (z:=nC f 9) rfl (aa (rJ (3*i)) (aa (rJ (3*i+3)) (aa (Jg f hi) ?_))))))))))
  refine(if_pos rfl).trans ?_;have h134:cA (n+1035) 134 [qr (λj=>f (3*i+j)),qr (uF w)]=some (cl (C9 f (uF w) i)):=Ev (n+2) (MG.row hf i) (Be hw);exact aa h134 (aa (ap hi) (aa (Lr (by omega)) (aa (aD (a:=i) (b:=1) (by omega)) rfl)))
 ·have hvv:=Be hv;have hww:=Be hw;have ho:Ms (C9 f (uF w)):=λi=>wO _ _;refine aa (JM (n+2) hv) (aa (Ev (n+2) hvv hvv) (aa (uJ (n+4) (a:=some (b.m0:Rat)) (dY (xO (cL hm))) (wO _ _)) (aa (EV (n+4) (by simp only[inR];omega) (by decide)) ?_)))
  refine aa (uJ (n+4) (b:=some (Rat.divInt 1 131072)) (oG _ _) (BM (by simp only[inR];omega) (by decide))) ?_
  refine aa (Ev (n+2) hww ho) (aa (EV (n+4) (by simp only[inR];omega) (by decide)) (aa (uJ (n+4) (b:=some (Rat.divInt 1 2097152)) (wO _ _) (BM (by simp only[inR];omega) (by decide))) ?_))
  have h334:=SS (n+2) (l:=[dP (dP (some (b.m0:Rat)) (pN (uF v) (uF v))) (some (Rat.divInt 1 131072)),dP (pN (uF w) (C9 f (uF w))) (some (Rat.divInt 1 2097152))]) (by simp) (λx hx=>by
   simp at hx;rcases hx with rfl|rfl<;>exact oG _ _)
  refine aa h334 ?_;show some (cl (fr (fr (some 0) _) _))=_;rw[wd (oG _ _)];rfl
def XT:Option Rat->Int
 | some q=>sg q.num
 | none=>0
end Sy
end
noncomputable section
namespace Sy
open Go Go.Proofs Geo
structure Thg where
 kd:Int
 b:Bdy
 st:Po
structure Psh where
 th:Int
 at_:V
 f0:V
 f1:V
structure Yrd where
 g:Int
 c0:Int
 c1:Int
 T:List Thg
 rp:D
 Pu:List Psh
structure Scn where
 st:List Bool
 po:List Po
 v:List V
 w:List V
 ta:List Bool
 ac:List Bool
structure YOk(y:Yrd):Prop where
 tl:y.T.length<=6
 pl:y.Pu.length<=16
 g0:0<=y.g
 g1:y.g<=1048576
 b:∀ t∈y.T,BOk t.b
 p:∀ p∈y.Pu,1<=p.th/\p.th<=y.T.length/\bd 4096 p.at_/\bd 1099511627776 p.f0
def Xz(p:Po):Prop:=Tr p.1=true/\Tq p.2=true/\∃ i,i<4/\p.2 i≠0
structure WOk(y:Yrd)(s:Scn):Prop where
 yok:YOk y
 st:s.st.length=y.T.length
 po:s.po.length=y.T.length
 v:s.v.length=y.T.length
 w:s.w.length=y.T.length
 ac:s.ac.length=y.Pu.length
 pok:∀ p∈s.po,Xz p
 vok:∀ v∈s.v,kq v=true
 wok:∀ v∈s.w,kq v=true
end Sy
end
noncomputable section
namespace Sy
open Go Go.Proofs Geo
end Sy
end
noncomputable section
namespace Sy
open Go Go.Proofs Geo
def Mv(a:Int)(b:Int):D.beq (I a) (D.int .i64 b)=decide (a=b):=bO
def xR{b c:Bool}{X:Option Bool}(h:X=some c):(if b=true then X else some false)=some (b&&c):=by cases b<;>simp[h]
end Sy
end
end Go.Proofs.YtpahompifldeeaaGreat
