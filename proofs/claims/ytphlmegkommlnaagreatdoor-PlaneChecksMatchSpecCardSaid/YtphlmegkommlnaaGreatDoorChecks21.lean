/- Part 21 of the proof that PlaneChecksMatchSpec answers true at every input -/
import Derived.Test.YtphlmegkommlnaaGreatDoorChecks18
import Derived.Test.YtphlmegkommlnaaGreatDoorChecks19
import Derived.Test.YtphlmegkommlnaaGreatDoorChecks20
set_option linter.unusedVariables false
set_option linter.unusedSimpArgs false
set_option linter.unnecessarySimpa false
set_option linter.defProp false
set_option maxRecDepth 20000
namespace Go.Proofs.YtphlmegkommlnaaGreatDoor
noncomputable section
namespace Sy
open Go Go.Proofs Geo
def mt(p:V):Nat->V
 | 0=>p
 | 1=>p.neg
 | _=>p
def Vz(n:Nat){l:List V}(hl:∀ x∈l,bd MV x)(hlen:l.length<=100)(hs:Fy l):∃ F:FL,KnF l l.length 0 0 F/\cA (n+7) 48 [aX l]=some (.sl (aN F)):=by
 suffices h:∃ y,cA (n+7) 48 [aX l]=some y/\∃ F:FL,KnF l l.length 0 0 F/\y=.sl (aN F) by
  obtain⟨y,h1,F,h2,rfl⟩:=h;exact⟨F,h2,h1⟩
 rw[X0]
 delta NC qB qC qT qN qX qL qZ iL iR Jn
 have ll:(l.map ag).length=l.length:=zCa ..;refine lV (λi s=>∃ F:FL,s=[.sl (aN F),I (i:Int)]/\KnF l i 0 0 F) l.length 0 (zoa _) ⟨[],rfl,⟨.nil,by simp⟩,λi' j' k' h1 h2 h3 h4=>by omega⟩ (λi hi s hJ=>?_) (λs hJ=>?_)
 ·obtain⟨F,rfl,hF⟩:=hJ;refine av (z:=l.map ag) rfl (av ah (av ab (gu (by show((i:Int)<((l.map ag).length:Int));rw[ll];omega) (av (au (ay (i:=i) (by omega))) ?_))))
  refine lV (λj s=>i+1<=j/\∃ F:FL,s=[.sl (aN F),I (j:Int)]/\KnF l i j 0 F) l.length (i+1) (by omega) ⟨zha _,F,rfl,hF.mono λi' j' k' h1 h2 h3 h4=>by omega⟩ (λj hj s hJ=>?_) (λs hJ=>?_)
  ·obtain⟨hij,F,rfl,hF⟩:=hJ;refine av (z:=l.map ag) rfl (av ah (av ab (gu (by show((j:Int)<((l.map ag).length:Int));rw[ll];omega) (av (au (ay (i:=j) (by omega))) ?_))))
   refine lV (λk s=>j+1<=k/\∃ F:FL,s=[.sl (aN F),I (k:Int)]/\KnF l i j k F) l.length (j+1) (by omega) ⟨zha _,F,rfl,hF.mono λi' j' k' h1 h2 h3 h4=>by omega⟩ (λk hk s hJ=>?_) (λs hJ=>?_)
   ·obtain⟨hjk,F,rfl,hF⟩:=hJ;refine av (z:=l.map ag) rfl (av ah (av ab (gu (by show((k:Int)<((l.map ag).length:Int));rw[ll];omega) ?_)))
    refine av (z:=l.map ag) rfl (av (z:=i) (by rw[ll];exact aq hi) (av (cY hi) (av (z:=l.map ag) rfl (av (z:=j) (by rw[ll];exact aq hj) (av (cY hj) (av (z:=l.map ag) rfl (av (z:=k) (by rw[ll];exact aq hk) (av (cY hk) (av (z:=ag (bS (ge (pt l) i j k))) (Sv n (hl _ (ct hi)) (hl _ (ct hj)) (hl _ (ct hk))) ?_)))))))))
    have bt:bd 549755813888 (bS (ge (pt l) i j k)):=jv (gL (lP (P:=pt l) (hl _ (ct hi)) (hl _ (ct hj))) (lP (P:=pt l) (hl _ (ct hi)) (hl _ (ct hk))));obtain⟨p,hp⟩:∃ p,bS (ge (pt l) i j k)=p:=⟨_,rfl⟩;rw[hp] at bt ⊢;have z0:bd 0 V.zero:=by simp only[bd,V.zero];omega
    have e1:V.zero.sub p=p.neg:=by apply V.ext'<;>simp[V.sub,V.neg,V.zero]
    have e2:V.zero.sub p.neg=p:=by apply V.ext'<;>simp[V.sub,V.neg,V.zero]
    refine lV (λt s=>∃ F':FL,s=[.sl (aN F'),I (t:Int),ag (mt p t)]/\FOk l F'/\(∀ f∈F,f∈F')/\(1<=t->ge (pt l) i j k≠V.zero->yP (pt l) l.length p (V.dot p (pt l i))->(p,V.dot p (pt l i))∈F'.map Prod.fst)/\(2<=t->ge (pt l) i j k≠V.zero->yP (pt l) l.length p.neg (V.dot p.neg (pt l i))->(p.neg,V.dot p.neg (pt l i))∈F'.map Prod.fst)) 2 0 (by omega) ⟨F,rfl,hF.fok,λf hf=>hf,λh=>by omega,λh=>by omega⟩ (λt ht s hJ=>?_) (λs hJ=>?_)
    ·obtain⟨F',rfl,f1,f2,f3,f4⟩:=hJ;refine av ah (av ab (gu (by show((t:Int)<2);omega) (av (z:=l.map ag) rfl (av (z:=i) (by rw[ll];exact aq hi) (av (cY hi) ?_)))))
     have ht':t=0\/t=1:=by omega
     simp only[g0,g1,g2];rcases ht' with rfl|rfl
     ·rw[show mt p 0=p from rfl];refine Fh (n+2) hl hlen hs f1 (show i<j by omega) (show j<k by omega) hk (m:=p) (.inl hp.symm) (λF2 k1 k2 k3=>?_)
      refine⟨.inl [.sl (aN F2),I ((0+1:Nat):Int),ag p.neg],?_,?_⟩
      ·refine aa (z:=ag p.neg) ?_ ?_
       ·have:=yU (n+5) z0 bt (by decide)
        rw[e1] at this;exact this
       ·exact aa (au Lc) rfl
      ·exact⟨F2,rfl,k1,λf hf=>k2 f (f2 f hf),λ_=>k3,λh=>by omega⟩
     ·rw[show mt p 1=p.neg from rfl];refine Fh (n+2) hl hlen hs f1 (show i<j by omega) (show j<k by omega) hk (m:=p.neg) (.inr (by rw[hp])) (λF2 k1 k2 k3=>?_)
      refine⟨.inl [.sl (aN F2),I ((1+1:Nat):Int),ag p],?_,F2,rfl,k1,λf hf=>k2 f (f2 f hf),λ_ h1 h2=>?_,λ_=>k3⟩
      ·refine aa (z:=ag p) ?_ ?_
       ·have:=yU (n+5) z0 (n7 bt) (by decide)
        rw[e2] at this;exact this
       ·exact aa (au s9) rfl
      ·obtain⟨f,hf,e⟩:=zsb.1 (f3 (zha _) h1 h2);exact zsb.2 ⟨f,k2 f hf,e⟩
    ·obtain⟨F',rfl,f1,f2,f3,f4⟩:=hJ;refine⟨.inr (0,[.sl (aN F')]),aa ah (aa ab (aH (by decide) rfl)),.inl [.sl (aN F'),I ((k+1:Nat):Int)],aa (au (ay (i:=k) (by omega))) rfl,by omega,F',rfl,f1,λi' j' k' h1 h2 h3 h4 h5 m h6 h7=>?_⟩
     by_cases e:i'=i/\j'=j/\k'=k
     ·obtain⟨rfl,rfl,rfl⟩:=e;rw[hp] at h6;rcases h6 with rfl|rfl
      ·exact f3 (by omega) h5 h7
      ·exact f4 (by omega) h5 h7
     ·obtain⟨f,hf,e⟩:=zsb.1 (hF.all i' j' k' h1 h2 h3 (by omega) h5 m h6 h7)
      exact zsb.2 ⟨f,f2 f hf,e⟩
   ·obtain⟨hjk,F,rfl,hF⟩:=hJ;refine⟨.inr (0,[.sl (aN F)]),?_,.inl [.sl (aN F),I ((j+1:Nat):Int)],aa (au (ay (i:=j) (by omega))) rfl,by omega,F,rfl,hF.mono λi' j' k' h1 h2 h3 h4=>by omega⟩
    exact aa (z:=l.map ag) rfl (aa ah (aa ab (aH (by show ¬ ((l.length:Int)<((l.map ag).length:Int));rw[ll];omega) rfl)))
  ·obtain⟨hij,F,rfl,hF⟩:=hJ;refine⟨.inr (0,[.sl (aN F)]),?_,.inl [.sl (aN F),I ((i+1:Nat):Int)],aa (au (ay (i:=i) (by omega))) rfl,F,rfl,hF.mono λi' j' k' h1 h2 h3 h4=>by omega⟩
   exact aa (z:=l.map ag) rfl (aa ah (aa ab (aH (by show ¬ ((l.length:Int)<((l.map ag).length:Int));rw[ll];omega) rfl)))
 ·obtain⟨F,rfl,hF⟩:=hJ;refine⟨.inr (0,[.sl (aN F)]),?_,.sl (aN F),rfl,F,hF,rfl⟩;exact aa (z:=l.map ag) rfl (aa ah (aa ab (aH (by show ¬ ((l.length:Int)<((l.map ag).length:Int));rw[ll];omega) rfl)))
end Sy
end
noncomputable section
namespace Sy
open Go Go.Proofs Geo
def aF(l:List V):(l.map ag).length=l.length:=zCa ..
def XB(n:Nat)(a b:List V)(ha:a.length<=1000000):cA (n+1) 13 [aX a,aX b]=some (.bool (decide (a=b))):=by
 rw[XO]
 delta Np qB qT qS qX qL qZ iL iR Jn
 refine aa (z:=a.map ag) rfl (aa (z:=b.map ag) rfl ?_);rw[aF,aF,ce];by_cases hab:a.length=b.length
 ·rw[decide_eq_true hab];refine aa (z:=false) rfl ?_;rw[if_neg (by decide)]
  refine bn (λi s=>s=[I (i:Int)]/\a.take i=b.take i) a.length 0 (zoa _) ⟨rfl,by simp⟩ (λi hi s hJ=>?_) (λs hJ=>?_)
  ·obtain⟨rfl,hz⟩:=hJ;have hib:i<b.length:=by omega
   have pre:∀ z,(Option.bind (D.truth (D.bool (!(D.beq (ag (a.getD i V.zero)) (ag (b.getD i V.zero)))))) λb14=>
     if b14 then(some (Sum.inr (0,[(D.bool false)]))) else(Option.bind (D.bin .add (I (i:Int)) (D.int .i64 1)) λx15=>some (Sum.inl [x15])))=some z ->
     (Option.bind (D.asSl (aX a)) λl5=>Option.bind (D.bin .lss (I (i:Int)) (D.int .i64 (List.length l5))) λx6=>Option.bind (D.truth x6) λb7=>
     if b7 then(Option.bind (D.asSl (aX a)) λl8=>Option.bind (D.idx (I (i:Int)) (List.length l8)) λi9=>Option.bind (l8[i9]?) λx10=>Option.bind (D.asSl (aX b)) λl11=>Option.bind (D.idx (I (i:Int)) (List.length l11)) λs9=>Option.bind (l11[s9]?) λx13=>
     Option.bind (D.truth (D.bool (!(D.beq x10 x13)))) λb14=>
     if b14 then(some (Sum.inr (0,[(D.bool false)]))) else(Option.bind (D.bin .add (I (i:Int)) (D.int .i64 1)) λx15=>some (Sum.inl [x15]))) else(some (Sum.inr (1,[]):Sum (List D) (Nat×List D))))=some z:=λz hz=>
    aa (z:=a.map ag) rfl (aa ah (aa ab (aD (by show((i:Int)<((a.map ag).length:Int));rw[aF];omega) (aa (z:=a.map ag) rfl (aa (z:=i) (by rw[aF];exact aq hi) (aa (cY hi) (aa (z:=b.map ag) rfl (aa (z:=i) (by rw[aF];exact aq hib) (aa (cY hib) hz)))))))))
   rw[jY] at pre;by_cases he:a.getD i V.zero=b.getD i V.zero
   ·left;refine⟨[I ((i+1:Nat):Int)],pre _ ?_,rfl,?_⟩
    ·rw[decide_eq_true he];refine aa (z:=false) rfl ?_;rw[if_neg (by decide)]
     exact aa (au (ay (i:=i) (by omega))) rfl
    ·rw[zEa hi,zEa hib,hz];simp only[List.getD,hi,hib,zda,zCb] at he;rw[he]
   ·right;refine⟨(0,[.bool false]),pre _ ?_,?_⟩
    ·rw[decide_eq_false he];rfl
    ·rw[decide_eq_false (λe=>he (by rw[e]))];rfl
  ·obtain⟨rfl,hz⟩:=hJ;refine⟨(1,[]),?_,?_⟩
   ·exact aa (z:=a.map ag) rfl (aa ah (aa ab (aH (by show ¬ ((a.length:Int)<((a.map ag).length:Int));rw[aF];omega) rfl)))
   ·rw[z3a,hab,z3a] at hz;rw[decide_eq_true hz];rfl
 ·rw[decide_eq_false hab,decide_eq_false (λe=>hab (by rw[e]))]
  rfl
instance decBd (k:Int) (v:V):Decidable (bd k v):=by unfold bd;exact inferInstance
def mV(v:V):Nat->Int
 | 0=>v.x
 | 1=>v.y
 | _=>v.z
def D9(v:V){t:Nat}(h:t<3):D.fld (ag v) t=some (I (mV v t)):=by
 have:t=0\/t=1\/t=2:=by omega
 rcases this with rfl|rfl|rfl<;>rfl
def An{v:V}:bd MV v↔∀ t,t<3->¬ (mV v t>262144)/\¬ (mV v t < -262144):=by
 constructor
 ·intro h t ht;have:t=0\/t=1\/t=2:=by omega
  simp only[bd,MV] at h;rcases this with rfl|rfl|rfl<;>simp only[mV]<;>omega
 ·intro h;have h0:=h 0 (by decide);have h1:=h 1 (by decide);have h2:=h 2 (by decide)
  simp only[mV] at h0 h1 h2;simp only[bd,MV];omega
def io(F:FL)(i:Nat):Bool:=F.any λf=>f.2.any λx=>decide (x=i)
def cV(S:List V)(F:FL)(k:Nat):List V:=((List.range k).filter (io F)).map (pt S)
def zZ(S:List V)(F:FL)(k:Nat):cV S F (k+1)=if io F k then cV S F k++[pt S k] else cV S F k:=by
 unfold cV;rw[zrc,List.filter_append];by_cases h:io F k=true<;>simp[h]
def uV(S:List V)(F:FL)(k:Nat):(cV S F k).length<=k:=by
 unfold cV;rw[zCa];exact zMa (zsc _ _) (by simp)
def za(e:Int):D:=.st [.st [.sl []],I e]
def AN(S:List V)(F:FL):D:=if F.length=0 then za 120 else if F.length>64 then za 2 else .st [.st [aX (cV S F S.length)],I 0]
def Hz(n:Nat){l:List V}(h:64<l.length):cA (n+1) 12 [aX l]=some (za 2):=by
 rw[T5]
 delta KP qB qC qT qS qX qL qV qW qZ iL iR Jn
 exact aa (z:=l.map ag) rfl (aa ca (aa ab (aD (by show((l.map ag).length:Int)>64;rw[aF];omega) rfl)))
def Kl{l:List V}{i:Nat}(hi:i<l.length){α:Type}{k:Nat×List D->Option α}{y:α}(hy:k (if bd MV (l.getD i V.zero) then(1,[.sl [],I 0]) else(0,[.sl [],I 1]))=some y) :
  Option.bind (aO (λ(v8:List D)=>
 Option.bind (D.bin .lss (gx v8 0) (D.int .i64 3)) λx9=>
 Option.bind (D.truth x9) λb10=>
 if b10 then(Option.bind (D.asSl (aX l)) λl11=>
 Option.bind (D.idx (I (i:Int)) (List.length l11)) λs9=>
 Option.bind (l11[s9]?) λx13=>
 Option.bind (D.idx (gx v8 0) 3) λi14=>
 Option.bind (D.fld x13 i14) λx15=>
 Option.bind (D.bin .gtr x15 (D.int .i64 262144)) λx16=>
 Option.bind (D.truth x16) λb17=>
 Option.bind (if b17 then(some true) else(Option.bind (D.asSl (aX l)) λl18=>
 Option.bind (D.idx (I (i:Int)) (List.length l18)) λi19=>
 Option.bind (l18[i19]?) λx20=>
 Option.bind (D.idx (gx v8 0) 3) λi21=>
 Option.bind (D.fld x20 i21) λx22=>
 Option.bind (D.bin .lss x22 (D.int .i64 (-262144))) λx23=>
 D.truth x23)) λb24=>
 Option.bind (D.truth (D.bool b24)) λb25=>
 if b25 then(some (Sum.inr (0,[(D.sl []),(D.int .i64 1)]))) else(Option.bind (D.bin .add (gx v8 0) (D.int .i64 1)) λx26=>
 some (Sum.inl [x26,(D.sl (D.els (gx v8 1))),(gx v8 2)]))) else(some (Sum.inr (1,[(D.sl (D.els (gx v8 1))),(gx v8 2)])))) [(D.int .i64 0),.sl [],I 0]) k=some y:=by
 refine cN (λt s=>s=[I (t:Int),.sl [],I 0]/\∀ t',t'<t->¬ (mV (l.getD i V.zero) t'>262144)/\¬ (mV (l.getD i V.zero) t' < -262144)) 3 0 (by decide) ⟨rfl,λt' h=>by omega⟩ (λt ht s hJ=>?_) (λs hJ=>?_)
 ·obtain⟨rfl,hz⟩:=hJ;have hf:=D9 (l.getD i V.zero) ht;have ix:D.idx (I (t:Int)) 3=some t:=aq ht;have pre:∀ z,(if decide (mV (l.getD i V.zero) t>262144\/mV (l.getD i V.zero) t < -262144)=true then(some (Sum.inr (0,[(D.sl []),(D.int .i64 1)]))) else(Option.bind (D.bin .add (I (t:Int)) (D.int .i64 1)) λx26=>some (Sum.inl [x26,.sl [],I 0])))=some z->_:=λ(z:Sum (List D) (Nat×List D)) hz'=>
   aa (g:=λx9=>Option.bind (D.truth x9) λb10=>if b10 then(Option.bind (D.asSl (aX l)) λl11=>Option.bind (D.idx (I (i:Int)) (List.length l11)) λs9=>Option.bind (l11[s9]?) λx13=>Option.bind (D.idx (I (t:Int)) 3) λi14=>Option.bind (D.fld x13 i14) λx15=>Option.bind (D.bin .gtr x15 (D.int .i64 262144)) λx16=>Option.bind (D.truth x16) λb17=>
    Option.bind (if b17 then(some true) else(Option.bind (D.asSl (aX l)) λl18=>Option.bind (D.idx (I (i:Int)) (List.length l18)) λi19=>Option.bind (l18[i19]?) λx20=>Option.bind (D.idx (I (t:Int)) 3) λi21=>Option.bind (D.fld x20 i21) λx22=>Option.bind (D.bin .lss x22 (D.int .i64 (-262144))) λx23=>D.truth x23)) λb24=>
    Option.bind (D.truth (D.bool b24)) λb25=>
    if b25 then(some (Sum.inr (0,[(D.sl []),(D.int .i64 1)]))) else(Option.bind (D.bin .add (I (t:Int)) (D.int .i64 1)) λx26=>some (Sum.inl [x26,.sl [],I 0]))) else(some (Sum.inr (1,[.sl [],I 0]))))
    (ah (a:=(t:Int)) (b:=3)) (y:=z) (aa ab (aD (by omega) (aa (z:=l.map ag) rfl (aa (z:=i) (by rw[aF];exact aq hi) (aa (cY hi) (aa ix (aa hf (aa ca (aa ab (aa (z:=decide (mV (l.getD i V.zero) t>262144\/mV (l.getD i V.zero) t < -262144)) (by
     by_cases h1:mV (l.getD i V.zero) t>262144
     ·refine aD h1 ?_;rw[decide_eq_true (.inl h1)]
     ·refine aH h1 (aa (z:=l.map ag) rfl (aa (z:=i) (by rw[aF];exact aq hi) (aa (cY hi) (aa ix (aa hf (aa ah ?_))))))
      rw[ab];congr 1;rw[decide_eq_decide];exact⟨.inr,λh=>h.resolve_left h1⟩) (aa ab hz')))))))))))
  by_cases hb:mV (l.getD i V.zero) t>262144\/mV (l.getD i V.zero) t < -262144
  ·right;refine⟨_,pre _ (aD hb rfl),?_⟩;rw[if_neg (λh=>by have:=An.1 h t ht;omega)] at hy
   exact hy
  ·left;refine⟨[I ((t+1:Nat):Int),.sl [],I 0],pre _ (aH hb (aa (au (ay (i:=t) (by omega))) rfl)),rfl,λt' ht'=>?_⟩
   by_cases e:t'=t
   ·subst e;omega
   ·exact hz t' (by omega)
 ·obtain⟨rfl,hz⟩:=hJ;refine⟨(1,[.sl [],I 0]),aa ah (aa ab (aH (by decide) rfl)),?_⟩
  rw[if_pos (An.2 hz)] at hy;exact hy
def Hy(n:Nat){l:List V}(hlen:l.length<=64)(hb:¬ ∀ x∈l,bd MV x):cA (n+1) 12 [aX l]=some (za 1):=by
 rw[T5]
 delta KP qB qC qT qS qX qL qV qW qZ iL iR Jn
 refine aa (z:=l.map ag) rfl (aa ca (aa ab (aH (by show ¬ ((l.map ag).length:Int)>64;rw[aF];omega) ?_)))
 refine bn (λi s=>s=[I (i:Int),.sl [],I 0]/\∀ x∈l.take i,bd MV x) l.length 0 (zoa _) ⟨rfl,by simp⟩ (λi hi s hJ=>?_) (λs hJ=>?_)
 ·obtain⟨rfl,hz⟩:=hJ;by_cases hx:bd MV (l.getD i V.zero)
  ·left;refine⟨[I ((i+1:Nat):Int),.sl [],I 0],?_,rfl,λx hx'=>?_⟩
   ·refine aa (z:=l.map ag) rfl (aa ah (aa ab (aD (by show((i:Int)<((l.map ag).length:Int));rw[aF];omega) (Kl hi ?_))))
    rw[if_pos hx,if_neg (show ¬ (1:Nat)=0 by decide)]
    exact aa (au (ay (i:=i) (by omega))) rfl
   ·rw[zEa hi] at hx';rcases zDa.1 hx' with h|h
    ·exact hz x h
    ·rw[zKa.1 h];simpa [List.getD,hi] using hx
  ·right;refine⟨(0,[.sl [],I 1]),?_,rfl⟩;refine aa (z:=l.map ag) rfl (aa ah (aa ab (aD (by show((i:Int)<((l.map ag).length:Int));rw[aF];omega) (Kl hi ?_))))
   rw[if_neg hx];rfl
 ·obtain⟨rfl,hz⟩:=hJ;rw[z3a] at hz;exact absurd hz hb
def DJ(n:Nat){l:List V}(hlen:l.length<=64)(hl:∀ x∈l,bd MV x){F:FL}(hpl:∀ f∈F,f.2.length<=1000000)(hFl:F.length<=3000000)(h48:cA (n+2) 48 [aX (dj l)]=some (.sl (aN F))):cA (n+3) 12 [aX l]=some (AN (dj l) F):=by
 rw[T5]
 delta KP qB qC qT qS qX qL qV qW qZ iL iR Jn
 refine aa (z:=l.map ag) rfl (aa ca (aa ab (aH (by show ¬ ((l.map ag).length:Int)>64;rw[aF];omega) ?_)))
 refine bn (λi s=>s=[I (i:Int),.sl [],I 0]) l.length 0 (zoa _) rfl (λi hi s hJ=>?_) (λs hJ=>?_)
 ·subst hJ;left;refine⟨[I ((i+1:Nat):Int),.sl [],I 0],?_,rfl⟩;refine aa (z:=l.map ag) rfl (aa ah (aa ab (aD (by show((i:Int)<((l.map ag).length:Int));rw[aF];omega) (Kl hi ?_))))
  rw[if_pos (hl _ (ct hi)),if_neg (show ¬ (1:Nat)=0 by decide)]
  exact aa (au (ay (i:=i) (by omega))) rfl
 ·subst hJ;refine⟨(1,[.sl [],I 0]),aa (z:=l.map ag) rfl (aa ah (aa ab (aH (by show ¬ ((l.length:Int)<((l.map ag).length:Int));rw[aF];omega) rfl))),?_⟩
  rw[if_neg (show ¬ (1:Nat)=0 by decide)]
  have hSl:=zMa (nN l) hlen;refine aa (XE n l (by omega)) (aa h48 (aa (z:=aN F) rfl ?_))
  obtain⟨S,hS⟩:∃ S,dj l=S:=⟨_,rfl⟩;rw[hS] at hSl ⊢;rw[a6,show D.beq (D.int .i64 (F.length:Nat)) (D.int .i64 0)=decide (F.length=0) from ce F.length 0];refine aa ab ?_;unfold AN;by_cases h0:F.length=0
  ·refine aD h0 ?_;rw[if_pos h0];rfl
  refine aH h0 (aa (z:=aN F) rfl (aa ca (aa ab ?_)));rw[if_neg h0];by_cases h64:F.length>64
  ·refine aD (by rw[a6];omega) ?_
   rw[if_pos h64];rfl
  refine aH (by rw[a6];omega) ?_
  rw[if_neg h64];refine bn (λi s=>s=[I (i:Int),.sl [],I 0,aX (cV S F i),I 0]) S.length 0 (zoa _) rfl (λi hi s hJ=>?_) (λs hJ=>?_)
  ·subst hJ;left;refine⟨[I ((i+1:Nat):Int),.sl [],I 0,aX (cV S F (i+1)),I 0],?_,rfl⟩;have hvl:=uV S F i;refine aa (z:=S.map ag) rfl (aa ah (aa ab (aD (by show((i:Int)<((S.map ag).length:Int));rw[aF];omega) ?_)))
   refine aa (z:=(0,[.sl [],I 0,aX (cV S F (i+1)),I 0])) ?_ (aa (au (ay (i:=i) (by omega))) rfl)
   refine cN (λk s=>s=[.bool (io (F.take k) i),I (k:Int),.sl [],I 0,aX (cV S F i),I 0]) F.length 0 (zoa _) rfl (λk hk s hJ=>?_) (λs hJ=>?_)
   ·subst hJ;left;refine⟨[.bool (io (F.take (k+1)) i),I ((k+1:Nat):Int),.sl [],I 0,aX (cV S F i),I 0],?_,rfl⟩;have hpk:=hpl F[k] (zLa hk);have e1:io (F.take (k+1)) i=(io (F.take k) i||F[k].2.any λx=>decide (x=i)):=by
     unfold io;rw[zEa hk,zWc];simp
    refine aa (z:=aN F) rfl (aa ah (aa ab (aD (by show((k:Int)<((aN F).length:Int));rw[a6];omega) ?_)))
    have fp:∀ {β:Type} {g:List D->Option β} {y:β},g (ae F[k].2)=some y->(Option.bind (D.asSl (.sl (aN F))) λl46=>Option.bind (D.idx (I (k:Int)) (List.length l46)) λi47=>Option.bind (l46[i47]?) λx48=>Option.bind (D.fld x48 2) λx49=>Option.bind (D.asSl x49) g)=some y:=λh=>
     aa (z:=aN F) rfl (aa (z:=k) (by rw[a6];exact aq hk) (aa (eG hk) (aa (z:=.sl (ae F[k].2)) rfl (aa (z:=ae F[k].2) rfl h))))
    rw[e1];generalize io (F.take k) i=b0;obtain⟨p,hp⟩:∃ p,F[k].2=p:=⟨_,rfl⟩;rw[hp] at hpk fp ⊢;refine cN (λj s=>s=[.bool (b0||(p.take j).any λx=>decide (x=i)),I (j:Int),.sl [],I 0,aX (cV S F i),I 0]) p.length 0 (zoa _) (by rw[List.take_zero,List.any_nil,Bool.or_false];rfl) (λj hj s hJ=>?_) (λs hJ=>?_)
    ·subst hJ;left;refine⟨[.bool (b0||(p.take (j+1)).any λx=>decide (x=i)),I ((j+1:Nat):Int),.sl [],I 0,aX (cV S F i),I 0],?_,rfl⟩;refine fp (aa ah (aa ab (aD (by show((j:Int)<((ae p).length:Int));rw[aj];omega) (aa ab (aa (z:=b0||(p.take (j+1)).any λx=>decide (x=i)) ?_ (aa (au (ay (i:=j) (by omega))) rfl))))))
     rw[zEa hj,zWc];generalize (p.take j).any (λx=>decide (x=i))=b1;cases hb:(b0||b1)
     ·rw[<-Bool.or_assoc,hb,if_neg (by decide)]
      refine fp (aa (z:=j) (by rw[aj];exact aq hj) (aa (rn hj) ?_))
      have:D.beq (I ((p.getD j 0:Nat):Int)) (I (i:Int))=decide (p[j]=i):=by rw[ce];simp[List.getD,hj]
      show D.truth (D.bool (D.beq (I ((p.getD j 0:Nat):Int)) (I (i:Int))))=_;rw[this,ab];simp
     ·rw[<-Bool.or_assoc,hb];rfl
    ·subst hJ;rw[z3a];refine⟨(0,[.bool (b0||p.any λx=>decide (x=i)),.sl [],I 0,aX (cV S F i),I 0]),fp (aa ah (aa ab (aH (by show ¬ ((p.length:Int)<((ae p).length:Int));rw[aj];omega) rfl))),?_⟩
     exact aa (au (ay (i:=k) (by omega))) rfl
   ·subst hJ;rw[z3a];refine⟨(0,[.bool (io F i),.sl [],I 0,aX (cV S F i),I 0]),?_,?_⟩
    ·exact aa (z:=aN F) rfl (aa ah (aa ab (aH (by show ¬ ((F.length:Int)<((aN F).length:Int));rw[a6];omega) rfl)))
    ·rw[zZ];refine aa (z:=io F i) ab ?_;cases io F i
     ·rfl
     ·rw[if_pos rfl,if_pos rfl];refine aa (z:=S.map ag) rfl (aa (z:=i) (by rw[aF];exact aq hi) (aa (cY hi) ?_))
      rw[if_pos (by show((cV S F i).map ag).length+1<=1073741824;rw[aF];omega)]
      have:D.sl ((cV S F i).map ag++[ag (S.getD i V.zero)])=aX (cV S F i++[pt S i]):=by simp[aX,pt]
      rw[<-this];rfl
  ·subst hJ;refine⟨(0,[.sl [],I 0,aX (cV S F S.length),I 0]),?_,rfl⟩;exact aa (z:=S.map ag) rfl (aa ah (aa ab (aH (by show ¬ ((S.length:Int)<((S.map ag).length:Int));rw[aF];omega) rfl)))
def yb{l:List V}(hs:Fy l){m:V}{d:Int}(hF:IsF (pt l) l.length m d){p:List Nat}(hp:cn (pt l) l.length m d p):p.Nodup/\p.length<=l.length/\0<p.length/\∀ x∈p,x<l.length:=by
 obtain⟨p',hp',hnd,hmem⟩:=hF.poly hs;have e:=cn.eq hs hF hp hp';subst e;obtain⟨a,_,ha,hea,_,_⟩:=hF.head hs;have hm:a∈p:=(hmem a).2 ⟨ha,hea⟩;refine⟨hnd,?_,List.length_pos_iff.2 (λe=>by rw[e] at hm;cases hm),λx hx=>(cl.1 ((hmem x).1 hx).1).1⟩
 have:=zYb (l₂:=List.range l.length) hnd λx hx=>zWa.2 (cl.1 ((hmem x).1 hx).1).1;simpa using this
def IE{l:List V}(hl:∀ x∈l,bd MV x):∀ x∈dj l,bd MV x:=λx hx=>hl x (xL.1 hx)
def XA(n:Nat){l:List V}(hlen:l.length<=100):(64<l.length/\cA (n+8) 12 [aX l]=some (za 2))\/(l.length<=64/\(¬ ∀ x∈l,bd MV x)/\cA (n+8) 12 [aX l]=some (za 1)) ∨
  (l.length<=64/\(∀ x∈l,bd MV x)/\∃ F:FL,KnF (dj l) (dj l).length 0 0 F/\cA (n+8) 12 [aX l]=some (AN (dj l) F)):=by
 by_cases h64:64<l.length
 ·exact .inl ⟨h64,Hz (n+7) h64⟩
 ·by_cases hb:∀ x∈l,bd MV x
  ·right;right;refine⟨by omega,hb,?_⟩
   have hsl:=nN l;have hS:=E4 (sM l);obtain⟨F,h1,h2⟩:=Vz n (IE hb) (by omega) hS
   refine⟨F,h1,DJ (n+5) (by omega) hb (λf hf=>?_) (zMa (h1.fok.len (by omega)) (by decide)) h2⟩
   obtain⟨q1,q2⟩:=h1.fok.ok f hf;have:=(yb hS q1 q2).2.1;omega
  ·exact .inr (.inl ⟨by omega,hb,Hy (n+7) (by omega) hb⟩)
def CU(S:List V)(F:FL):(cV S F S.length).Sublist S:=by
 have h1:((List.range S.length).map (pt S))=S:=by
  apply z3b;intro i;by_cases h:i<S.length
  ·rw[z9a,zUc h];simp[pt,List.getD,h]
  ·rw[z9a,show(List.range S.length)[i]?=none by simp;omega];simp;omega
 have h2:(cV S F S.length).Sublist ((List.range S.length).map (pt S)):=List.Sublist.map _ List.filter_sublist;rw[h1] at h2;exact h2
def XC(n:Nat){l:List V}(hlen:l.length<=100):(∃ e:Int,cA (n+9) 15 [cF l]=some (I e)/\e≠0)\/(cA (n+9) 15 [cF l]=some (I 0)/\l.length<=64/\(∀ x∈l,bd MV x)/\∃ F:FL,KnF (dj l) (dj l).length 0 0 F/\F.length≠0/\F.length<=64/\cV (dj l) F (dj l).length=l):=by
 rw[XP]
 delta Nq qG qT Jn
 have err:∀ e:Int,e≠0->cA (n+8) 12 [aX l]=some (za e)->∃ e:Int,(Option.bind (D.get (cF l) [0]) λx1=>
 Option.bind (cA (n+8) 12 [x1]) λr2=>
 Option.bind (D.get r2 [1]) λx3=>
 Option.bind (D.truth (D.bool (D.beq x3 (D.int .i64 0)))) λb4=>
 Option.bind (if b4 then(Option.bind (D.get r2 [0,0]) λx5=>
 Option.bind (D.get (cF l) [0]) λx6=>
 Option.bind (cA (n+8) 13 [x5,x6]) λr7=>
 Option.bind (D.un .not r7) λx8=>
 D.truth x8) else(some false)) λb9=>
 Option.bind (D.truth (D.bool b9)) λb10=>
 if b10 then(some (D.int .i64 3)) else(Option.bind (D.get r2 [1]) λx11=>
 some x11))=some (I e)/\e≠0:=λe he h=>⟨e,by
  refine aa (z:=aX l) rfl (aa h (aa (z:=I e) rfl (aa (z:=false) ?_ (aa (z:=false) rfl (aa (z:=false) rfl rfl)))));rw[show D.beq (I e) (D.int .i64 0)=decide (e=0) from bw,decide_eq_false he];rfl,he⟩
 rcases XA n hlen with⟨h1,h2⟩|⟨h0,h1,h2⟩|⟨h0,h1,F,h2,h3⟩
 ·exact .inl (err 2 (by decide) h2)
 ·exact .inl (err 1 (by decide) h2)
 ·unfold AN at h3;by_cases f0:F.length=0
  ·rw[if_pos f0] at h3;exact .inl (err 120 (by decide) h3)
  ·rw[if_neg f0] at h3;by_cases f1:F.length>64
   ·rw[if_pos f1] at h3;exact .inl (err 2 (by decide) h3)
   ·rw[if_neg f1] at h3;have hvl:=uV (dj l) F (dj l).length;have hsl:=nN l;have h13:=XB (n+7) (cV (dj l) F (dj l).length) l (by omega)
    by_cases hv:cV (dj l) F (dj l).length=l
    ·rw[decide_eq_true hv] at h13;refine .inr ⟨?_,h0,h1,F,h2,f0,by omega,hv⟩
     refine aa (z:=aX l) rfl (aa h3 (aa (z:=I 0) rfl (aa (z:=true) rfl (aa (z:=false) ?_ (aa (z:=false) rfl rfl)))));rw[if_pos rfl];exact aa (z:=aX (cV (dj l) F (dj l).length)) rfl (aa (z:=aX l) rfl (aa h13 rfl))
    ·rw[decide_eq_false hv] at h13;refine .inl ⟨3,?_,by decide⟩
     refine aa (z:=aX l) rfl (aa h3 (aa (z:=I 0) rfl (aa (z:=true) rfl (aa (z:=true) ?_ (aa (z:=true) rfl rfl)))));rw[if_pos rfl];exact aa (z:=aX (cV (dj l) F (dj l).length)) rfl (aa (z:=aX l) rfl (aa h13 rfl))
end Sy
end
noncomputable section
namespace Sy
open Go Go.Proofs Geo
def J0(n:Nat){x y:Int}(hx:In x)(hy:In y)(h:In (x*y)):cA (n+3) 61 [af x,af y]=some (af (x*y)):=by
 have:=VB n (a:=some x) (b:=some y) (ba hx) (ba hy)
 rwa [show kG (some x) (some y)=some (x*y) from jJ h] at this
def HM(n:Nat){x y:Int}(hx:In x)(hy:In y)(h:In (x+y)):cA (n+4) 57 [af x,af y]=some (af (x+y)):=by
 have:=VA n (a:=some x) (b:=some y) (ba hx) (ba hy)
 rwa [show ta (some x) (some y)=some (x+y) from jJ h] at this
def dY{α:Type}{A B y:α}(h:A=y):(if true=true then A else B)=y:=h
def L6(n:Nat){v:V}(h1:inR v.x)(h2:inR v.y)(h3:inR v.z):cA (n+3) 148 [ag v]=some (pz v):=by
 rw[Us];delta Gm qB qC qZ iL iR Jn;obtain⟨Z,hZ⟩:∃ Z,(D.st [(D.bool false),(D.bool false),(aw aS)])=Z:=⟨_,rfl⟩;rw[hZ];refine be (s':=[I 1,.st [af v.x,Z,Z]]) ?_ (be (s':=[I 2,.st [af v.x,af v.y,Z]]) ?_ (be (s':=[I 3,pz v]) ?_ (dZ (r:=(0,[pz v])) ?_ rfl)))
 ·exact aa (z:=.bool true) rfl (aa (z:=true) rfl (dY (aa (z:=0) rfl (aa (z:=I v.x) rfl (aa (C3 n h1) (aa (z:=0) rfl (aa (z:=.st [af v.x,Z,Z]) rfl (aa (z:=I 1) rfl rfl))))))))
 ·exact aa (z:=.bool true) rfl (aa (z:=true) rfl (dY (aa (z:=1) rfl (aa (z:=I v.y) rfl (aa (C3 n h2) (aa (z:=1) rfl (aa (z:=.st [af v.x,af v.y,Z]) rfl (aa (z:=I 2) rfl rfl))))))))
 ·exact aa (z:=.bool true) rfl (aa (z:=true) rfl (dY (aa (z:=2) rfl (aa (z:=I v.z) rfl (aa (C3 n h3) (aa (z:=2) rfl (aa (z:=pz v) rfl (aa (z:=I 3) rfl rfl))))))))
 ·exact aa (z:=.bool false) rfl (aa (z:=false) rfl rfl)
end Sy
end
noncomputable section
namespace Sy
open Go Go.Proofs Geo
end Sy
end
noncomputable section
namespace Sy
open Go Go.Proofs Geo
def Et{m k:Nat}(h:m<=2^k)(hk:k<=511):m<dJ:=by
 have:In (m:Int):=kh hk (by rw[zza];exact h)
 have:=aZ.1 this
 rwa [zza] at this
def zA{a b k:Nat}(ha:a<=2^k)(hb:b<=2^k):a+b<=2^(k+1):=by rw[zkb];omega
def LN(q:Rat)(a k:Nat):Prop:=q.num.natAbs<=2^a/\q.den<=2^k
def LN.inR{q:Rat}{a k:Nat}(h:LN q a k)(ha:a<=511:=by decide)(hk:k<=511:=by decide):yL q:=
 ⟨kh ha h.1,kh hk (by rw[zza];exact h.2)⟩
theorem LN.fitA{x y:Rat}{a k b m:Nat}(hx:LN x a k)(hy:LN y b m)(h1:a+m<=510:=by decide)(h2:b+k<=510:=by decide)(h3:k+m<=511:=by decide):fitA x y:=by
 refine⟨?_,Et (jL hx.2 hy.2 (zha _)) h3⟩;have e1:=jL hx.1 hy.2 h1;have e2:=jL hy.1 hx.2 h2;exact Et (k:=510+1) (zA e1 e2) (by decide)
def MB(t:T3):D:=.st [.st [ag t.1,ag t.2.1,ag t.2.2],af (Yr t)]
def I8(T:List T3):List D:=T.map MB
theorem C2.take{T:List T3}{N:Nat}(h:C2 T N)(i:Nat):C2 (T.take i) N:=
 ⟨zMa (by rw[zbb];omega) h.1,λt ht=>h.2 t (zJa ht)⟩
section
variable{l:List V}{T:List T3}(hT:C2 T 268435456)(h58:∀ m,cA (m+9) 58 [cF l]=some (.sl (I8 T)))
include hT h58
end
end Sy
end
noncomputable section
namespace Sy
open Go Go.Proofs Geo
def Eh{S:List V}(hS:Fy S){F:FL}(hK:FOk S F){k:Nat}(h:io F k=true):LR (pt S) S.length k:=by
 obtain⟨f,hf,h2⟩:=zRc.1 h;obtain⟨x,hx,hxk⟩:=zRc.1 h2;have hxk:x=k:=by simpa using hxk
 subst hxk;obtain⟨q1,q2⟩:=hK.ok f hf;obtain⟨p,p1,_,p3⟩:=q1.poly hS;rw[<-cn.eq hS q1 q2 p1] at p3;obtain⟨r1,r2⟩:=(p3 x).1 hx;exact⟨_,_,q1,r1,r2⟩
end Sy
end
noncomputable section
namespace Sy
open Go Go.Proofs Geo
def LU(q:Rat):D.beq (fV q) (fV q)=true:=by
 unfold fV;show(D.beq (af q.num) (af q.num)&&(D.beq (af q.den) (af q.den)&&true))=true;rw[wK,wK];rfl
section
variable{l:List V}{T:List T3}(hT:C2 T 268435456)(h58:∀ m,cA (m+9) 58 [cF l]=some (.sl (I8 T)))
include hT h58
end
def XL{l:List V}(hl:∀ x∈l,bd MV x)(hlen:l.length<=64)(hs:Fy l):∃ (L:List (V×Int)) (poly:V×Int->List Nat),Facets (pt l) l.length L/\(∀ q∈L,cn (pt l) l.length q.1 q.2 (poly q)) ∧
  FIn l (L.map λq=>(q,poly q))/\(∀ m,cA (m+8) 18 [cF l]=some (.sl (aN (L.map λq=>(q,poly q)))))/\∀ m,cA (m+8) 19 [cF l]=some (.sl (aN (L.map λq=>(q,poly q)))):=by
 obtain⟨L,poly,hL,hP,hLl,_⟩:=VG 0 hl (show l.length<=100 by omega) hs
 have hFm:∀ m,∃ F:FL,F=(L.map λq=>(q,poly q))/\cA (m+8) 18 [cF l]=some (.sl (aN F))/\cA (m+8) 19 [cF l]=some (.sl (aN F)):=λm=>by
  obtain⟨F,hK,h48⟩:=Vz m hl (show l.length<=100 by omega) hs
  obtain⟨L',poly',hL',hP',_,h18⟩:=VG (m+1) hl (show l.length<=100 by omega) hs
  have e':L=L':=Facets.eq hL hL';subst e';have eL:F.map Prod.fst=L:=Facets.eq hK.facets hL;have eq1:∀ f∈F,poly f.1=f.2/\poly' f.1=f.2:=λf hf=>by
   obtain⟨q1,q2⟩:=hK.fok.ok f hf;have hm:f.1∈L:=by rw[<-eL];exact zsb.2 ⟨f,hf,rfl⟩
   exact⟨cn.eq hs q1 (hP f.1 hm) q2,cn.eq hs q1 (hP' f.1 hm) q2⟩
  have eF:(L.map λq=>xg q (poly' q))=aN F:=by
   rw[<-eL,List.map_map];refine zRb λf hf=>?_;simp only[Function.comp_apply,(eq1 f hf).2]
  refine⟨F,?_,by rw[h18,eF],?_⟩
  ·rw[<-eL,List.map_map];have:∀ f∈F,((λq=>(q,poly q)) ∘ Prod.fst) f=id f:=λf hf=>by
    show(f.1,poly f.1)=f;rw[(eq1 f hf).1]
   rw[zRb this,List.map_id]
  ·rw[XR]
   delta Ns qG
   exact aa (z:=aX l) rfl (aa h48 rfl)
 refine⟨L,poly,hL,hP,⟨by rw[zCa];exact hLl,λf hf=>?_⟩,λm=>?_,λm=>?_⟩
 ·obtain⟨q,hq,rfl⟩:=zsb.1 hf;have h3:=zy hs hL hP hq;have hp:=yb hs ((hL.mem q).1 hq) (hP q hq);refine⟨h3,by show(poly q).length<=100;omega,λj hj=>hp.2.2.2 _ ?_⟩
  simp only[z8a,zda hj];exact zLa hj
 ·obtain⟨F,rfl,h,_⟩:=hFm m;exact h
 ·obtain⟨F,rfl,_,h⟩:=hFm m;exact h
end Sy
end
noncomputable section
namespace Sy
open Go Go.Proofs Geo
end Sy
end
noncomputable section
namespace Sy
open Go Go.Proofs Geo
def JP(n:Nat):cA (n+3) 169 []=some (af 1):=by
 rw[Uz];delta Gu Jn;exact aa (C3 n (gP 1)) rfl
def SD(n:Nat){x:Int}(hx:In x):cA (n+1031) 138 [af x]=some (fV (x:Rat)):=by
 rw[Uk];unfold Ge;refine aa (JP (n+1027)) (aa (Mu n hx yM (by decide)) ?_)
 rw[pu]
def Mv(n:Nat){x:Int}(hx:inR x):cA (n+1032) 74 [I x]=some (fV (x:Rat)):=by
 rw[Yc];unfold NM;exact aa (C3 (n+1029) hx) (aa (SD n (bR hx)) rfl)
def L2(n:Nat){q:Rat}(h:yL q):cA (n+1030) 136 [fV q]=some (.bool true):=by
 rw[M7];delta Dh qG qB qT Jn;have hp:=q.den_pos;refine aa (z:=af q.num) rfl (aa (DI (n+1027) h.1) (aa (z:=true) rfl (aa (z:=true) (dY ?_) (aa (z:=true) rfl (aa (z:=true) (dY ?_) (aa (z:=true) rfl (aa (z:=true) (dY ?_) rfl)))))))
 ·exact aa (z:=af (q.den:Int)) rfl (aa (DI (n+1027) h.2) rfl)
 ·refine aa (z:=af (q.den:Int)) rfl (aa (tc (n+1026) h.2) (aa ca ?_));rw[fK (by omega)];rfl
 ·refine aa (z:=af q.num) rfl (aa (z:=af (q.den:Int)) rfl (aa (JM n h.1 h.2) (aa (JP (n+1026)) ?_)));have e:Nat.gcd q.num.natAbs (q.den:Int).natAbs=1:=q.reduced;rw[e];show D.truth (.bool (D.beq (af 1) (af 1)))=_;rw[wK];rfl
def CO{x y:Rat}{a b g:Nat}(ha:x.den=g*a)(hb:y.den=g*b)(hne:(a:Int)*y.den≠0):Rat.divInt (x.num*b+y.num*a) ((a:Int)*y.den)=x+y:=by
 conv=>rhs;rw[<-Rat.num_divInt_den x,<-Rat.num_divInt_den y]
 rw[Rat.divInt_add_divInt _ _ (eS x) (eS y),Rat.divInt_eq_divInt_iff hne (by have:=eS x;have:=eS y;exact Int.mul_ne_zero ‹_› ‹_›)]
 have k1:(x.den:Int)=g*a:=by rw[ha,z0a]
 have k2:(y.den:Int)=g*b:=by rw[hb,z0a]
 rw[k1,k2];grind
def y8{N D:Int}(hD:0<D)(h:Nat.gcd N.natAbs D.natAbs=1):(Rat.divInt N D).num=N/\((Rat.divInt N D).den:Int)=D:=by
 obtain⟨p1,p2⟩:=eV N (show D≠0 by omega)
 have e:((1:Nat):Int)=1:=rfl;rw[if_neg (by omega),h,e,Int.ediv_one] at p1 p2
 exact⟨p1,p2⟩
def AG(x:Int){d:Int}(hd:d≠0):(Rat.divInt x d).num.natAbs ∣ x.natAbs/\(Rat.divInt x d).den ∣ d.natAbs:=by
 obtain⟨p1,p2⟩:=eV x hd;have e:(Rat.divInt x d).den=((Rat.divInt x d).den:Int).natAbs:=rfl;rw[e,p1,p2];have key:∀ z:Int,((Nat.gcd x.natAbs d.natAbs:Nat):Int) ∣ z->(z/(if d<0 then -(Nat.gcd x.natAbs d.natAbs:Int) else(Nat.gcd x.natAbs d.natAbs:Int))).natAbs ∣ z.natAbs:=by
  intro z hz;have hgp:0<Nat.gcd x.natAbs d.natAbs:=zgc _ (by omega)
  obtain⟨k,rfl⟩:=hz;generalize Nat.gcd x.natAbs d.natAbs=g at *;split
  ·rw[Int.ediv_neg,z2a _ (by omega),zec,zOa];exact Nat.dvd_mul_left _ _
  ·rw[z2a _ (by omega),zOa];exact Nat.dvd_mul_left _ _
 exact⟨key x (zZa.2 (zhb _ _)),key d (zZa.2 (zob _ _))⟩
def Od(n:Nat){x y:Int}(hx:In x)(hy:In y):cA (n+4) 90 [af x,af y]=some (I (bf x y)):=by
 rw[Ym];delta NW qG qT qN Jn;have gx:=mf (n+1) (a:=some x) (ba hx);have gy:=mf (n+1) (a:=some y) (ba hy);have hxt:=aZ.1 hx;have hyt:=aZ.1 hy;refine aa gx (aa gy (aa (z:=.bool false) rfl (aa (z:=false) rfl (aa (z:=false) rfl (aa (z:=false) rfl ?_)))));rw[if_neg (by decide)]
 refine aa (z:=.bool false) rfl (aa (z:=false) rfl ?_);rw[if_neg (by decide)]
 refine aa (z:=.bool false) rfl (aa (z:=false) rfl ?_);rw[if_neg (by decide)]
 refine aa (aB x) (aa (aB y) ?_);by_cases h1:x<0<;>by_cases h2:y<0
 ·rw[decide_eq_true h1,decide_eq_true h2];refine aa (z:=false) rfl ?_;rw[if_neg (by decide)]
  refine aa (z:=.bool true) (by rw[aB,decide_eq_true h1]) (aa (z:=true) rfl (dY ?_))
  refine aa (gv y) (aa (gv x) (aa (Hx n hyt hxt) ?_));congr 2;unfold bf;by_cases c:x<y
  ·rw[if_pos c,if_pos (by omega)]
  ·rw[if_neg c,if_neg (by omega)]
   by_cases c2:x>y
   ·rw[if_pos c2,if_pos (by omega)]
   ·rw[if_neg c2,if_neg (by omega)]
 ·rw[decide_eq_true h1,decide_eq_false h2];refine aa (z:=true) rfl (dY ?_);refine aa (z:=.bool true) (by rw[aB,decide_eq_true h1]) (aa (z:=true) rfl (dY ?_))
  unfold bf;rw[if_pos (by omega)]
 ·rw[decide_eq_false h1,decide_eq_true h2];refine aa (z:=true) rfl (dY ?_);refine aa (z:=.bool false) (by rw[aB,decide_eq_false h1]) (aa (z:=false) rfl ?_)
  rw[if_neg (by decide)]
  unfold bf;rw[if_neg (by omega),if_pos (by omega)]
 ·rw[decide_eq_false h1,decide_eq_false h2];refine aa (z:=false) rfl ?_;rw[if_neg (by decide)]
  refine aa (z:=.bool false) (by rw[aB,decide_eq_false h1]) (aa (z:=false) rfl ?_)
  rw[if_neg (by decide)]
  refine aa (gv x) (aa (gv y) (aa (Hx n hxt hyt) ?_));congr 2;unfold bf;by_cases c:x<y
  ·rw[if_pos c,if_pos (by omega)]
  ·rw[if_neg c,if_neg (by omega)]
   by_cases c2:x>y
   ·rw[if_pos c2,if_pos (by omega)]
   ·rw[if_neg c2,if_neg (by omega)]
def SC(n:Nat){v:V}(h1:inR v.x)(h2:inR v.y)(h3:inR v.z):cA (n+1033) 135 [ag v]=some (I7 (RV.of v)):=by
 rw[Ui];delta Gc qG;exact aa (z:=I v.x) rfl (aa (Mv n h1) (aa (z:=I v.y) rfl (aa (Mv n h2) (aa (z:=I v.z) rfl (aa (Mv n h3) rfl)))))
end Sy
end
noncomputable section
namespace Sy
open Go Go.Proofs Geo
def u4:D:=.st [mb,af 1]
def bh:Option Rat->D
 | some q=>fV q
 | none=>u4
def OW(a:Option Rat):Prop:=∀ q,a=some q->yL q
theorem OW.some{q:Rat}(h:OW (some q)):yL q:=h q rfl
def cK{q:Rat}(h:yL q):OW (some q):=λy e=>by cases e;exact h
def lc:OW none:=λy e=>by cases e
def gJ:k9 none:=λy e=>by cases e
def nw:Option Int->Option Int->Option Rat
 | some n,some d=>if d=0 then none else some (Rat.divInt n d)
 | _,_=>none
def A1{a b:Option Int}(ha:k9 a)(hb:k9 b):OW (nw a b):=by
 cases a<;>cases b<;>simp only[nw]<;>first|exact lc|skip
 split
 ·exact lc
 ·exact cK (ft ha.some hb.some (by assumption))
def u0(a b:Option Int):k9 (ta a b):=by
 cases a<;>cases b<;>simp only[ta]<;>first|exact gJ|exact xW _
def fc(a b:Option Int):k9 (kG a b):=by
 cases a<;>cases b<;>simp only[kG]<;>first|exact gJ|exact xW _
def jO{x:Int}(hx:In x)(g:Int):In (x/g):=LP hx (Int.natAbs_ediv_le_natAbs x g)
def BC(x y:Rat):Option Rat:=
 nw (ta (kG (some x.num) (some ((y.den:Int)/(Nat.gcd x.den y.den:Nat)))) (kG (some y.num) (some ((x.den:Int)/(Nat.gcd x.den y.den:Nat))))) (kG (some ((x.den:Int)/(Nat.gcd x.den y.den:Nat))) (some (y.den:Int)))
def kj:Option Rat->Option Rat->Option Rat
 | some x,some y=>BC x y
 | _,_=>none
def Ku(x y:Rat):Option Rat:=
 nw (kG (some (Rat.divInt x.num y.den).num) (some (Rat.divInt y.num x.den).num)) (kG (some ((Rat.divInt x.num y.den).den:Int)) (some ((Rat.divInt y.num x.den).den:Int)))
def mA:Option Rat->Option Rat->Option Rat
 | some x,some y=>Ku x y
 | _,_=>none
def zr(a:Option Rat):Option Rat:=a.map (λx=>-x)
def IG(a b:Option Rat):Option Rat:=kj a (zr b)
def ld(a b:Option Rat):OW (kj a b):=by
 cases a<;>cases b<;>simp only[kj]<;>first|exact lc|exact A1 (u0 _ _) (fc _ _)
def nA(a b:Option Rat):OW (mA a b):=by
 cases a<;>cases b<;>simp only[mA]<;>first|exact lc|exact A1 (fc _ _) (fc _ _)
def nC{a:Option Rat}(h:OW a):OW (zr a):=by
 cases a with
 | none=>exact lc
 | some x=>exact cK ⟨aZ.2 (by rw[Rat.neg_num,zec];exact aZ.1 h.some.1),h.some.2⟩
def IH(a b:Option Rat):OW (IG a b):=ld _ _
def E6(x y:Rat):∃ g a b:Nat,g=Nat.gcd x.den y.den/\0<g/\x.den=g*a/\y.den=g*b/\0<a/\0<b/\(x.den:Int)/(Nat.gcd x.den y.den:Nat)=a/\(y.den:Int)/(Nat.gcd x.den y.den:Nat)=b:=by
 obtain⟨g,hg⟩:∃ g,g=Nat.gcd x.den y.den:=⟨_,rfl⟩;have hxp:=x.den_pos;have hyp:=y.den_pos;have gp:0<g:=by rw[hg];exact Nat.gcd_pos_of_pos_left _ hxp
 obtain⟨a,ha⟩:g ∣ x.den:=hg ▸ zhb _ _;obtain⟨b,hb⟩:g ∣ y.den:=hg ▸ zob _ _;have g0:(g:Int)≠0:=by omega
 refine⟨g,a,b,hg,gp,ha,hb,Nat.pos_of_ne_zero λh=>by rw[h] at ha;omega,Nat.pos_of_ne_zero λh=>by rw[h] at hb;omega,?_,?_⟩
 ·rw[<-hg,ha,z0a];exact z2a _ g0
 ·rw[<-hg,hb,z0a];exact z2a _ g0
def qk{x y:Int}(h:In (x*y)):kG (some x) (some y)=some (x*y):=jJ h
def Ai{x y:Int}(h:In (x+y)):ta (some x) (some y)=some (x+y):=jJ h
def Dy{x y:Rat}(hf:fitA x y):kj (some x) (some y)=some (x+y):=by
 obtain⟨f1,f2⟩:=hf;obtain⟨g,a,b,hg,gp,ha,hb,a0,b0,ea,eb⟩:=E6 x y;have ha':a<=x.den:=by rw[ha];exact zJb _ gp
 have hb':b<=y.den:=by rw[hb];exact zJb _ gp
 have m1:x.num.natAbs*b<=x.num.natAbs*y.den:=zXa _ hb';have m2:y.num.natAbs*a<=y.num.natAbs*x.den:=zXa _ ha';have m3:a*y.den<=x.den*y.den:=zwa _ ha';have i1:In (x.num*b):=aZ.2 (by rw[zOa,zza];omega)
 have i2:In (y.num*a):=aZ.2 (by rw[zOa,zza];omega)
 have i3:In (x.num*b+y.num*a):=aZ.2 (by
  have:=Int.natAbs_add_le (x.num*b) (y.num*a);rw[zOa,zOa,zza,zza] at this;omega)
 have i4:In ((a:Int)*y.den):=aZ.2 (by rw[<-z0a,zza];omega)
 have hne:(a:Int)*y.den≠0:=by
  have:0<a*y.den:=Nat.mul_pos a0 y.den_pos;rw[<-z0a];omega
 simp only[kj,BC,ea,eb];rw[qk i1,qk i2,Ai i3,qk i4];simp only[nw];rw[if_neg hne,CO ha hb hne]
def L3(n:Nat):cA (n+1) 139 [mb]=some (.bool true):=by
 rw[KG];delta By qG qB qC qT qN qZ iL iR Jn;refine bn (λi s=>s=[.bool true,I (i:Int)]) 16 0 (zoa _) rfl (λi hi s hJ=>?_) (λs hJ=>?_)
 ·subst hJ;left;refine⟨_,?_,rfl⟩;refine aa ah (aa ab (aD (by show(i:Int)<16;omega) (aa ab (aa (z:=true) ?_ (aa (au (ay (i:=i) (by omega))) rfl)))))
  rw[if_pos rfl];refine aa (aq hi) (aa (z:=.int .u32 0) ?_ rfl);have hg:D.get mb [2,i]=D.get (LM 0) [i]:=rfl;rw[hg,a8 _ hi,iS]
 ·subst hJ;refine⟨(0,[.bool true]),aa ah (aa ab (aH (by decide) rfl)),?_⟩
  exact aa (z:=.bool true) rfl (aa (z:=true) rfl (dY (aa (z:=true) rfl (aa (z:=true) rfl rfl))))
def pZ(n:Nat){a:Option Int}(ha:k9 a):cA (n+2) 76 [bY a]=some (.bool a.isSome):=by
 cases a with
 | some x=>exact lQ n ha.some
 | none=>rw[Vs];delta KW qG qT;exact aa (L3 n) (aa (z:=true) rfl (aa (z:=false) rfl rfl))
def Bw(n:Nat){a:Option Int}(ha:k9 a):∃ w b,cA (n+3) 124 [bY a]=some (.tup [I w,.bool b])/\(b=true->a.isSome=true):=by
 cases a with
 | some x=>
  obtain⟨w,b,h,_⟩:=nT n ha.some;exact⟨w,b,h,λ_=>rfl⟩
 | none=>
  refine⟨0,false,?_,λh=>by cases h⟩
  rw[KF];delta Bx qG qB qC qT qN qZ iL iR Jn;exact aa (pZ n ha) (aa (z:=.bool true) rfl (aa (z:=true) rfl (aa (z:=true) rfl (aa (z:=true) rfl rfl))))
def vJ{n f:Nat}{a b:Option Int}{e:Option Int->D}(h:(a.isSome&&b.isSome)=false)(hb:cA n f [e b]=some (.bool b.isSome)) :
  (if(!a.isSome)=true then some true else Option.bind (cA n f [e b]) λr=>Option.bind (D.un .not r) λx=>D.truth x)=some true:=by
 cases hA:a.isSome with
 | false=>rfl
 | true=>
  rw[hA] at h;have:b.isSome=false:=by simpa using h
  rw[if_neg (by decide),hb,this];rfl
def Ms(n:Nat){a b:Option Int}(ha:k9 a)(hb:k9 b):cA (n+4) 59 [bY a,bY b]=some (bY (ta a b)):=by
 rcases dN (a:=a) (b:=b) with h|⟨x,y,rfl,rfl⟩
 ·have e:ta a b=none:=by cases a<;>cases b<;>simp at h<;>rfl
  rw[e,Vq];delta KU qG qB qT qN;obtain⟨w1,b1,h1,k1⟩:=Bw n ha;obtain⟨w2,b2,h2,k2⟩:=Bw n hb;have hb':(b1&&b2)=false:=by
   cases b1<;>cases b2<;>first|rfl|(rw[k1 rfl,k2 rfl] at h;cases h)
  refine aa h1 (aa (z:=I w1) rfl (aa (z:=.bool b1) rfl (aa h2 (aa (z:=I w2) rfl (aa (z:=.bool b2) rfl (aa (z:=b1) rfl (aa (z:=false) (by cases b1<;>cases b2<;>simp at hb'<;>rfl) (aa (z:=false) rfl ?_))))))))
  rw[if_neg (by decide)]
  refine aa (pZ (n+1) ha) (aa aJ (aa ab (aa (vJ h (pZ (n+1) hb)) (aa (z:=true) rfl (dY (aa (DG (n+2)) rfl))))))
 ·exact Tm n ha.some hb.some
def Tu(n:Nat){a b:Option Int}(ha:k9 a)(hb:k9 b):cA (n+4) 89 [bY a,bY b]=some (bY (kG a b)):=by
 rcases dN (a:=a) (b:=b) with h|⟨x,y,rfl,rfl⟩
 ·have e:kG a b=none:=by cases a<;>cases b<;>simp at h<;>rfl
  rw[e,Vu];delta KY qG qB qT qN;obtain⟨w1,b1,h1,k1⟩:=Bw n ha;obtain⟨w2,b2,h2,k2⟩:=Bw n hb;have hb':(b1&&b2)=false:=by
   cases b1<;>cases b2<;>first|rfl|(rw[k1 rfl,k2 rfl] at h;cases h)
  refine aa h1 (aa (z:=I w1) rfl (aa (z:=.bool b1) rfl (aa h2 (aa (z:=I w2) rfl (aa (z:=.bool b2) rfl (aa (z:=b1) rfl (aa (z:=false) (by cases b1<;>cases b2<;>simp at hb'<;>rfl) (aa (z:=false) rfl (aa (z:=false) rfl (aa (z:=false) rfl (aa (z:=false) rfl (aa (z:=false) rfl ?_))))))))))))
  rw[if_neg (by decide)]
  refine aa (pZ (n+1) ha) (aa aJ (aa ab (aa (vJ h (pZ (n+1) hb)) (aa (z:=true) rfl (dY (aa (DG (n+2)) rfl))))))
 ·exact Tv n ha.some hb.some
def Lb(n:Nat):cA (n+5) 84 []=some u4:=by
 rw[Yk];unfold NU;exact aa (DG (n+3)) (aa (HB n) rfl)
def Mj(n:Nat){a b:Option Int}(ha:k9 a)(hb:k9 b):cA (n+6) 37 [bY a,bY b]=some (bh (nw a b)):=by
 rcases dN (a:=a) (b:=b) with h|⟨x,d,rfl,rfl⟩
 ·have e:nw a b=none:=by cases a<;>cases b<;>simp at h<;>rfl
  rw[e,UY];delta KR qC qT qN Jn;exact aa (pZ (n+3) ha) (aa aJ (aa ab (aa (vJ h (pZ (n+3) hb)) (aa (z:=true) rfl (aa (z:=true) rfl (aa (z:=true) rfl (dY (aa (Lb n) rfl))))))))
 ·by_cases hd:d=0
  ·subst hd;rw[UY];delta KR qC qT qN Jn;refine aa (pZ (n+3) ha) (aa aJ (aa (z:=false) rfl (aa (z:=false) ?_ (aa (z:=false) rfl (aa (z:=true) ?_ (aa (z:=true) rfl (dY (aa (Lb n) rfl))))))))
   ·rw[if_neg (by decide)];exact aa (pZ (n+3) hb) (aa aJ rfl)
   ·rw[if_neg (by decide)];exact aa (BI (n+2) hb.some) rfl
  ·have e:nw (some x) (some d)=some (Rat.divInt x d):=by simp only[nw];rw[if_neg hd]
   rw[e];exact Mh (n+1) ha.some hb.some hd
def BK(n:Nat){x y:Int}(hx:In x)(hy:In y):cA (n+4) 89 [af x,af y]=some (bY (kG (some x) (some y))):=Tu n (a:=some x) (b:=some y) (ba hx) (ba hy)
def qF(n:Nat){a:Option Rat}(ha:OW a):cA (n+5) 88 [bh a]=some (.bool a.isSome):=by
 cases a with
 | some q=>exact VE n ha.some
 | none=>
  rw[Lf];delta Hj qG qC qT qN Jn;exact aa (z:=mb) rfl (aa (pZ (n+2) (a:=none) gJ) (aa (z:=.bool true) rfl (aa (z:=true) rfl (aa (z:=true) rfl (aa (z:=true) rfl rfl)))))
def fO{a b:Option Rat}:(a.isSome&&b.isSome)=false\/∃ x y,a=some x/\b=some y:=by
 cases a<;>cases b<;>simp
def qm{n f:Nat}{a b:Option Rat}(h:(a.isSome&&b.isSome)=false)(hb:cA n f [bh b]=some (.bool b.isSome)) :
  (if(!a.isSome)=true then some true else Option.bind (cA n f [bh b]) λr=>Option.bind (D.un .not r) λx=>D.truth x)=some true:=by
 cases hA:a.isSome with
 | false=>rfl
 | true=>
  rw[hA] at h;have:b.isSome=false:=by simpa using h
  rw[if_neg (by decide),hb,this];rfl
def Ea{x y:Rat}(hx:yL x):In ((Nat.gcd x.den y.den:Nat):Int):=kg.2 (zFa (Nat.gcd_le_left _ x.den_pos) (kg.1 hx.2))
def JV(n:Nat){a b:Option Rat}(ha:OW a)(hb:OW b):cA (n+7) 40 [bh a,bh b]=some (bh (kj a b)):=by
 rcases fO (a:=a) (b:=b) with h|⟨x,y,rfl,rfl⟩
 ·have e:kj a b=none:=by cases a<;>cases b<;>simp at h<;>rfl
  rw[e,VK];delta Lr qG qT qN;exact aa (qF (n+1) ha) (aa aJ (aa ab (aa (qm h (qF (n+1) hb)) (aa (z:=true) rfl (dY (aa (Lb (n+1)) rfl))))))
 ·have hx:=ha.some;have hy:=hb.some;rw[VK];delta Lr qG qT qN;refine aa (qF (n+1) ha) (aa aJ (aa (z:=false) rfl (aa (z:=false) ?_ (aa (z:=false) rfl ?_))))
  ·rw[if_neg (by decide)];exact aa (qF (n+1) hb) (aa aJ rfl)
  rw[if_neg (by decide)]
  obtain⟨g,p,q,hg,gp,hp,hq,p0,q0,ep,eq⟩:=E6 x y;have gi:=Ea (y:=y) hx;have g0:((Nat.gcd x.den y.den:Nat):Int)≠0:=by rw[<-hg];omega
  have h1:=HK (n+2) hx.2 hy.2;rw[zza,zza] at h1;have h2:=HL (n+2) hx.2 gi g0 ⟨p,by rw[<-hg,hp,z0a]⟩
  have h3:=HL (n+2) hy.2 gi g0 ⟨q,by rw[<-hg,hq,z0a]⟩
  have ip:=jO hx.2 ((Nat.gcd x.den y.den:Nat):Int);have iq:=jO hy.2 ((Nat.gcd x.den y.den:Nat):Int);refine aa (z:=af (x.den:Int)) rfl (aa (z:=af (y.den:Int)) rfl (aa h1 ?_));refine aa (z:=af (x.den:Int)) rfl (aa h2 (aa (z:=af (y.den:Int)) rfl (aa h3 (aa (z:=af x.num) rfl (aa (BK (n+2) hx.1 iq) (aa (z:=af y.num) rfl (aa (BK (n+2) hy.1 ip) (aa (Ms (n+2) (fc _ _) (fc _ _)) (aa (z:=af (y.den:Int)) rfl (aa (BK (n+2) ip hy.2) ?_))))))))));exact aa (Mj n (u0 _ _) (fc _ _)) rfl
def A5{x d:Int}(h:d≠0):nw (some x) (some d)=some (Rat.divInt x d):=by simp only[nw];rw[if_neg h]
def JU(n:Nat){a b:Option Rat}(ha:OW a)(hb:OW b):cA (n+7) 38 [bh a,bh b]=some (bh (mA a b)):=by
 rcases fO (a:=a) (b:=b) with h|⟨x,y,rfl,rfl⟩
 ·have e:mA a b=none:=by cases a<;>cases b<;>simp at h<;>rfl
  rw[e,VJ];delta Lo qG qT qN;exact aa (qF (n+1) ha) (aa aJ (aa ab (aa (qm h (qF (n+1) hb)) (aa (z:=true) rfl (dY (aa (Lb (n+1)) rfl))))))
 ·have hx:=ha.some;have hy:=hb.some;rw[VJ];delta Lo qG qT qN;refine aa (qF (n+1) ha) (aa aJ (aa (z:=false) rfl (aa (z:=false) ?_ (aa (z:=false) rfl ?_))))
  ·rw[if_neg (by decide)];exact aa (qF (n+1) hb) (aa aJ rfl)
  rw[if_neg (by decide)]
  have r1:=ft hx.1 hy.2 (eS y);have r2:=ft hy.1 hx.2 (eS x);refine aa (z:=af x.num) rfl (aa (z:=af (y.den:Int)) rfl (aa (Mh (n+1) hx.1 hy.2 (eS y)) (aa (z:=af y.num) rfl (aa (z:=af (x.den:Int)) rfl (aa (Mh (n+1) hy.1 hx.2 (eS x)) ?_)))));simp only[mA,Ku];generalize Rat.divInt x.num y.den=P at *;generalize Rat.divInt y.num x.den=Q at *;refine aa (z:=af P.num) rfl (aa (z:=af Q.num) rfl (aa (BK (n+2) r1.1 r2.1) (aa (z:=af (P.den:Int)) rfl (aa (z:=af (Q.den:Int)) rfl (aa (BK (n+2) r1.2 r2.2) ?_)))));exact aa (Mj n (fc _ _) (fc _ _)) rfl
def JW(n:Nat){a:Option Rat}(ha:OW a):cA (n+6) 70 [bh a]=some (bh (zr a)):=by
 cases a with
 | some q=>exact XH n ha.some
 | none=>rw[VL];delta LJ qG qN;exact aa (qF n ha) (aa aJ (aa (z:=true) rfl (dY (aa (Lb n) rfl))))
def HE(n:Nat){a b:Option Rat}(ha:OW a)(hb:OW b):cA (n+8) 39 [bh a,bh b]=some (bh (IG a b)):=by
 rw[XV];unfold Nx;exact aa (JW (n+1) hb) (aa (JV n ha (nC hb)) rfl)
end Sy
end
noncomputable section
namespace Sy
open Go Go.Proofs Geo
end Sy
end
noncomputable section
namespace Sy
open Go Go.Proofs Geo
def SX(n:Nat){q:Rat}(h:yL q):cA (n+1031) 357 [fV q]=some (fV (-q)):=by
 rw[Nf];delta Do qG qN;refine aa (L2 n h) (aa (z:=.bool false) rfl (aa (z:=false) rfl ?_));rw[if_neg (by decide)]
 exact aa (z:=af q.num) rfl (aa (z:=af (-q.num)) (VC (n+1027) (a:=some q.num) (λx hx=>by cases hx;exact h.1)) (aa (z:=af (q.den:Int)) rfl rfl))
structure Way(P:List D)(z:Nat->Int):Prop where
 get:∀ i (h:i<P.length),D.get P[i] [0,2]=some (I (z i))
 le:∀ i,i<P.length->(z i).natAbs<=2^60
 len:P.length<=512
end Sy
end
noncomputable section
namespace Sy
open Go Go.Proofs Geo
def wO(n:Nat){a:Option Int}(ha:k9 a):cA (n+2) 128 [bY a]=some (.bool a.isSome):=by
 cases a with
 | some x=>exact DI n ha.some
 | none=>rw[M5];delta Df qG qN;exact aa (z:=.bool true) rfl (aa (z:=.bool false) rfl (aa (z:=false) rfl (aa (z:=false) rfl rfl)))
def yW(n:Nat):cA (n+4) 130 []=some u4:=by
 rw[Ue];unfold F8;exact aa (BH (n+2)) (aa (JP n) rfl)
def Tn(n:Nat){a b:Option Int}(ha:k9 a)(hb:k9 b):cA (n+1030) 62 [bY a,bY b]=some (bh (nw a b)):=by
 rcases dN (a:=a) (b:=b) with h|⟨x,d,rfl,rfl⟩
 ·have e:nw a b=none:=by cases a<;>cases b<;>simp at h<;>rfl
  rw[e,Vr];delta KV qC qT qN Jn;exact aa (wO (n+1027) ha) (aa aJ (aa ab (aa (vJ h (wO (n+1027) hb)) (aa (z:=true) rfl (aa (z:=true) rfl (aa (z:=true) rfl (dY (aa (yW (n+1025)) rfl))))))))
 ·by_cases hd:d=0
  ·subst hd;rw[Vr];delta KV qC qT qN Jn;refine aa (wO (n+1027) ha) (aa aJ (aa (z:=false) rfl (aa (z:=false) ?_ (aa (z:=false) rfl (aa (z:=true) ?_ (aa (z:=true) rfl (dY (aa (yW (n+1025)) rfl))))))))
   ·rw[if_neg (by decide)];exact aa (wO (n+1027) hb) (aa aJ rfl)
   ·rw[if_neg (by decide)];exact aa (tc (n+1026) hb.some) rfl
  ·rw[A5 hd];exact Mu n ha.some hb.some hd
def DO(n:Nat){x y:Int}(hx:In x)(hy:In y):cA (n+3) 61 [af x,af y]=some (bY (kG (some x) (some y))):=VB n (a:=some x) (b:=some y) (ba hx) (ba hy)
def ko(n:Nat){a:Option Rat}(ha:OW a):cA (n+1030) 136 [bh a]=some (.bool a.isSome):=by
 cases a with
 | some q=>exact L2 n ha.some
 | none=>
  rw[M7];delta Dh qG qB qT Jn;exact aa (z:=mb) rfl (aa (wO (n+1027) (a:=none) gJ) (aa (z:=false) rfl (aa (z:=false) rfl (aa (z:=false) rfl (aa (z:=false) rfl (aa (z:=false) rfl (aa (z:=false) rfl rfl)))))))
def DK(n:Nat){a b:Option Rat}(ha:OW a)(hb:OW b):cA (n+1031) 173 [bh a,bh b]=some (bh (kj a b)):=by
 rcases fO (a:=a) (b:=b) with h|⟨x,y,rfl,rfl⟩
 ·have e:kj a b=none:=by cases a<;>cases b<;>simp at h<;>rfl
  rw[e,Nb];delta Dl qG qT qN;exact aa (ko n ha) (aa aJ (aa ab (aa (qm h (ko n hb)) (aa (z:=true) rfl (dY (aa (yW (n+1026)) rfl))))))
 ·have hx:=ha.some;have hy:=hb.some;rw[Nb];delta Dl qG qT qN;refine aa (ko n ha) (aa aJ (aa (z:=false) rfl (aa (z:=false) ?_ (aa (z:=false) rfl ?_))))
  ·rw[if_neg (by decide)];exact aa (ko n hb) (aa aJ rfl)
  rw[if_neg (by decide)]
  obtain⟨g,p,q,hg,gp,hp,hq,p0,q0,ep,eq⟩:=E6 x y;have gi:=Ea (y:=y) hx;have g0:((Nat.gcd x.den y.den:Nat):Int)≠0:=by rw[<-hg];omega
  have h1:=JM (n+1) hx.2 hy.2;rw[zza,zza] at h1;have h2:=HA (n+1024) hx.2 gi g0 ⟨p,by rw[<-hg,hp,z0a]⟩
  have h3:=HA (n+1024) hy.2 gi g0 ⟨q,by rw[<-hg,hq,z0a]⟩
  have ip:=jO hx.2 ((Nat.gcd x.den y.den:Nat):Int);have iq:=jO hy.2 ((Nat.gcd x.den y.den:Nat):Int);refine aa (z:=af (x.den:Int)) rfl (aa (z:=af (y.den:Int)) rfl (aa h1 ?_));refine aa (z:=af (x.den:Int)) rfl (aa h2 (aa (z:=af (y.den:Int)) rfl (aa h3 (aa (z:=af x.num) rfl (aa (DO (n+1027) hx.1 iq) (aa (z:=af y.num) rfl (aa (DO (n+1027) hy.1 ip) (aa (VA (n+1026) (fc _ _) (fc _ _)) (aa (z:=af (y.den:Int)) rfl (aa (DO (n+1027) ip hy.2) ?_))))))))));exact aa (Tn n (u0 _ _) (fc _ _)) rfl
def Ma(n:Nat){a b:Option Rat}(ha:OW a)(hb:OW b):cA (n+1031) 174 [bh a,bh b]=some (bh (mA a b)):=by
 rcases fO (a:=a) (b:=b) with h|⟨x,y,rfl,rfl⟩
 ·have e:mA a b=none:=by cases a<;>cases b<;>simp at h<;>rfl
  rw[e,Nc];delta Dm qG qT qN;exact aa (ko n ha) (aa aJ (aa ab (aa (qm h (ko n hb)) (aa (z:=true) rfl (dY (aa (yW (n+1026)) rfl))))))
 ·have hx:=ha.some;have hy:=hb.some;rw[Nc];delta Dm qG qT qN;refine aa (ko n ha) (aa aJ (aa (z:=false) rfl (aa (z:=false) ?_ (aa (z:=false) rfl ?_))))
  ·rw[if_neg (by decide)];exact aa (ko n hb) (aa aJ rfl)
  rw[if_neg (by decide)]
  obtain⟨v1,v2⟩:=AG x.num (eS y);obtain⟨w1,w2⟩:=AG y.num (eS x);rw[zza] at v2 w2;have r1:=ft hx.1 hy.2 (eS y);have r2:=ft hy.1 hx.2 (eS x);refine aa (z:=af x.num) rfl (aa (z:=af (y.den:Int)) rfl (aa (Mu n hx.1 hy.2 (eS y)) (aa (z:=af y.num) rfl (aa (z:=af (x.den:Int)) rfl (aa (Mu n hy.1 hx.2 (eS x)) ?_)))));simp only[mA,Ku];generalize Rat.divInt x.num y.den=P at *;generalize Rat.divInt y.num x.den=Q at *;refine aa (z:=af P.num) rfl (aa (z:=af Q.num) rfl (aa (DO (n+1027) r1.1 r2.1) (aa (z:=af (P.den:Int)) rfl (aa (z:=af (Q.den:Int)) rfl (aa (DO (n+1027) r1.2 r2.2) ?_)))));have hpos:0<(P.den:Int)*Q.den:=by
   have:=Nat.mul_pos P.den_pos Q.den_pos;rw[<-z0a];omega
  have c1:Nat.Coprime P.num.natAbs P.den:=P.reduced;have c2:Nat.Coprime Q.num.natAbs Q.den:=Q.reduced;have c3:Nat.Coprime P.num.natAbs Q.den:=Nat.Coprime.coprime_dvd_left v1 (Nat.Coprime.coprime_dvd_right w2 x.reduced);have c4:Nat.Coprime Q.num.natAbs P.den:=Nat.Coprime.coprime_dvd_left w1 (Nat.Coprime.coprime_dvd_right v2 y.reduced);have hred:Nat.gcd (P.num*Q.num).natAbs ((P.den:Int)*Q.den).natAbs=1:=by
   rw[zOa,<-z0a,zza];exact Nat.Coprime.mul_left (Nat.Coprime.mul_right c1 c3) (Nat.Coprime.mul_right c4 c2)
  obtain⟨z1,z2⟩:=y8 hpos hred;simp only[kG,gl];by_cases t1:(P.num*Q.num).natAbs<dJ
  ·rw[if_pos t1];by_cases t2:((P.den:Int)*Q.den).natAbs<dJ
   ·rw[if_pos t2];refine aa (z:=.bool false) rfl (aa (z:=false) rfl (aa (z:=false) ?_ (aa (z:=false) rfl ?_)))
    ·rw[if_neg (by decide)]
     exact aa (z:=.bool false) rfl rfl
    rw[if_neg (by decide),A5 (by omega)]
    show some (D.st [af (P.num*Q.num),af ((P.den:Int)*Q.den)])=some (D.st [af (Rat.divInt (P.num*Q.num) ((P.den:Int)*Q.den)).num,af ((Rat.divInt (P.num*Q.num) ((P.den:Int)*Q.den)).den:Int)]);rw[z1,z2]
   ·rw[if_neg t2];refine aa (z:=.bool false) rfl (aa (z:=false) rfl (aa (z:=true) ?_ (aa (z:=true) rfl (dY (aa (yW (n+1026)) rfl)))));rw[if_neg (by decide)]
    exact aa (z:=.bool true) rfl rfl
  ·rw[if_neg t1];exact aa (z:=.bool true) rfl (aa (z:=true) rfl (aa (z:=true) rfl (aa (z:=true) rfl (dY (aa (yW (n+1026)) rfl)))))
def DM(n:Nat){a:Option Rat}(ha:OW a):cA (n+1031) 357 [bh a]=some (bh (zr a)):=by
 cases a with
 | some q=>exact SX n ha.some
 | none=>rw[Nf];delta Do qG qN;exact aa (ko n ha) (aa aJ (aa (z:=true) rfl (dY (aa (yW (n+1026)) rfl))))
def Me(n:Nat){a b:Option Rat}(ha:OW a)(hb:OW b):cA (n+1032) 336 [bh a,bh b]=some (bh (IG a b)):=by
 rw[UQ];unfold GK;exact aa (DM n hb) (aa (DK n ha (nC hb)) rfl)
end Sy
end
noncomputable section
namespace Sy
open Go Go.Proofs Geo
end Sy
end
noncomputable section
namespace Sy
open Go Go.Proofs Geo
theorem rU{body:Bd}{m:Nat}{r0:List D}(ok:Nat->Bool)(h:∀ i,i<m->body [I (i:Int)]=some (if ok i then .inl [I ((i+1:Nat):Int)] else .inr (0,r0)))(he:body [I (m:Int)]=some (.inr (1,[]))) :
  ∀ d j,j+d=m->aO body [I (j:Int)]=some (if((List.range d).all λt=>ok (j+t)) then(1,[]) else(0,r0))
 | 0,j,hj=>by
  have hj:j=m:=by omega
  subst hj;exact(cJ he:aO body [I (j:Int)]=some (1,[]))
 | d+1,j,hj=>by
  have ih:=rU ok h he d (j+1) (by omega)
  have hb:=h j (by omega)
  rw[List.range_succ_eq_map];simp only[zEb,List.all_map,zOb,Function.comp_def];cases hok:ok j with
  | false=>
   rw[hok] at hb;exact(cJ hb:aO body [I (j:Int)]=some (0,r0))
  | true=>
   rw[hok] at hb;rw[show aO body [I (j:Int)]=aO body [I ((j+1:Nat):Int)] from cR hb,ih];simp only[zgb,Nat.succ_eq_add_one,zvb,zjc 1]
def lX(m:Int)(x:Int):Bool:=decide (-m<x)&&decide (x<m)
def eO(v:V)(i:Nat):Int:=if i=0 then v.x else if i=1 then v.y else v.z
def xo{v:V}{i:Nat}(h:i<3):D.get (ag v) [i]=some (I (eO v i)):=by
 have:i=0\/i=1\/i=2:=by omega
 rcases this with rfl|rfl|rfl<;>rfl
end Sy
end
noncomputable section
namespace Sy
open Go Go.Proofs Geo
def SY(n:Nat){a b:Int}(ha:a.natAbs<=9223372036854775807)(hb:b.natAbs<=9223372036854775807):cA (n+1) 364 [I a,I b]=some (I (Nat.gcd a.natAbs b.natAbs:Nat)):=by
 rw[UW,show GQ aO (cA n) (I a) (I b)=Dj aO (cA n) (I a) (I b) from rfl,<-M9];exact JO n ha hb
def SZ(n:Nat)(a:Int):cA (n+1) 365 [I a]=some (I (sg a)):=by
 rw[UX];delta GR qC Jn;refine aa ah (aa ab ?_);by_cases h:a<0
 ·refine aD h ?_;rw[show sg a=-1 by unfold sg;rw[if_pos h]]
 ·refine aH h ?_;by_cases h0:0<a
  ·rw[show sg a=1 by unfold sg;rw[if_neg h,if_pos h0]]
   have e:D.min2 (I a) (I 1)=some (I 1):=by
    simp only[D.min2];split
    ·rfl
    ·rw[show a=1 by omega]
   exact aa e rfl
  ·have e0:a=0:=by omega
   subst e0;rfl
def gh(q:Nat->Int):D:=.st [I (q 0),I (q 1),I (q 2),I (q 3)]
def tV{q:Nat->Int}{i:Nat}(h:i<4):D.get (gh q) [i]=some (I (q i)):=by
 have:i=0\/i=1\/i=2\/i=3:=by omega
 rcases this with rfl|rfl|rfl|rfl<;>rfl
def Cb(q:Nat->Int):Bool:=(List.range 4).all λt=>lX 65 (q (0+t))
def AY{q:Nat->Int}(h:Cb q=true):∀ i,i<4->(q i).natAbs<=64:=by
 intro i hi;have:=zja.1 h i (zWa.2 hi);simp only[lX,zaa,decide_eq_true_eq,z1a] at this;omega
def SV(n:Nat)(q:Nat->Int):cA (n+1) 348 [gh q]=some (.bool (Cb q)):=by
 rw[UU];delta GO qB qC qT qJ qZ iL iR Jn;refine kD (r:=if Cb q then(1,[]) else(0,[.bool false])) (rU (m:=4) (λi=>lX 65 (q i)) (λi hi=>?_) ?_ 4 0 rfl) ?_
 ·have hi':D.idx (I (i:Int)) 4=some i:=aq hi;refine aa ah (aa ab (aD (by show(i:Int)<4;omega) ?_))
  have hx:=tV (q:=q) hi;refine aa hi' (aa hx ?_);generalize q i=x at *;by_cases h1:x>64
  ·have e:lX 65 x=false:=by simp[lX];omega
   refine aa (z:=.bool true) (by simp[D.bin,h1]) (aa (z:=true) rfl (aa (z:=true) rfl (aa (z:=true) rfl ?_)))
   rw[if_pos rfl,e];rfl
  ·refine aa (z:=.bool false) (by simp[D.bin,h1]) (aa (z:=false) rfl ?_)
   by_cases h2:x < -64
   ·have e:lX 65 x=false:=by simp[lX];omega
    refine aa (z:=true) ?_ (aa (z:=true) rfl ?_)
    ·rw[if_neg (by decide)]
     exact aa hi' (aa hx (aa (z:=.bool true) (by simp[D.bin,h2]) rfl))
    ·rw[if_pos rfl,e];rfl
   ·have e:lX 65 x=true:=by simp[lX];omega
    refine aa (z:=false) ?_ (aa (z:=false) rfl ?_)
    ·rw[if_neg (by decide)]
     exact aa hi' (aa hx (aa (z:=.bool false) (by simp[D.bin,h2]) rfl))
    ·rw[if_neg (by decide),e]
     exact aa (aM (a:=i) (b:=1) (by omega)) rfl
 ·exact aa ah (aa ab (aH (by decide) rfl))
 ·cases Cb q<;>rfl
end Sy
end
noncomputable section
namespace Sy
open Go Go.Proofs Geo
def Kt{body:Bd}{s0:List D}{k:Nat×List D->Option D}{Q:D->Prop}(h:∃ r,aO body s0=some r/\∃ y,k r=some y/\Q y):∃ y,Option.bind (aO body s0) k=some y/\Q y:=by
 obtain⟨r,h1,y,h2,h3⟩:=h;exact⟨y,kD h1 h2,h3⟩
def cW{α β:Type}{A:Option α}{g:α->Option β}{Q:β->Prop}{z:α}(h:A=some z)(hk:∃ y,g z=some y/\Q y):∃ y,Option.bind A g=some y/\Q y:=by
 subst h;exact hk
theorem MA{body:Bd}{q:Nat->Int}(h1:∀ (g s:Int) (k:Nat),k<4->0<=g->g<=64->s.natAbs<=1->∃ g' s':Int,body [I g,I s,I (k:Int)]=some (.inl [I g',I s',I ((k:Int)-1)])/\0<=g'/\g'<=64/\s'.natAbs<=1/\(s'≠0->s≠0\/q k≠0))
  (h2:∀ g s:Int,body [I g,I s,I (-1)]=some (.inr (0,[I g,I s]))):∀ (c:Nat),c<=4->∀ g s:Int,0<=g->g<=64->s.natAbs<=1->(s≠0->∃ i,i<4/\q i≠0) ->
   ∃ g' s':Int,aO body [I g,I s,I ((c:Int)-1)]=some (0,[I g',I s'])/\0<=g'/\g'<=64/\s'.natAbs<=1/\(s'≠0->∃ i,i<4/\q i≠0)
 | 0,_,g,s,g0,g1,s1,hz=>⟨g,s,cJ (h2 g s),g0,g1,s1,hz⟩
 | c+1,hc,g,s,g0,g1,s1,hz=>by
  obtain⟨g',s',k1,k2,k3,k4,k5⟩:=h1 g s c (by omega) g0 g1 s1
  obtain⟨g2,s2,j1,j2⟩:=MA h1 h2 c (by omega) g' s' k2 k3 k4 (λh=>(k5 h).elim hz (λh=>⟨c,by omega,h⟩))
  refine⟨g2,s2,?_,j2⟩;rw[show(((c+1:Nat):Int)-1)=(c:Int) by omega]
  exact(cR k1).trans j1
def Mz{body:Bd}{q:Nat->Int}{k:Nat×List D->Option D}{Q:D->Prop}(h1:∀ (g s:Int) (k:Nat),k<4->0<=g->g<=64->s.natAbs<=1->∃ g' s':Int,body [I g,I s,I (k:Int)]=some (.inl [I g',I s',I ((k:Int)-1)])/\0<=g'/\g'<=64/\s'.natAbs<=1/\(s'≠0->s≠0\/q k≠0))
  (h2:∀ g s:Int,body [I g,I s,I (-1)]=some (.inr (0,[I g,I s]))) (h3:∀ g s:Int,0<=g->g<=64->s.natAbs<=1->(s≠0->∃ i,i<4/\q i≠0)->∃ y,k (0,[I g,I s])=some y/\Q y):∃ y,Option.bind (aO body [I 0,I 0,I 3]) k=some y/\Q y:=by
 obtain⟨g,s,e,g0,g1,s1,hz⟩:=MA h1 h2 4 (zha _) 0 0 (by decide) (by decide) (by decide) (λh=>absurd rfl h)
 exact Kt ⟨_,e,h3 g s g0 g1 s1 hz⟩
def SW(n:Nat){q:Nat->Int}(hq:∀ i,i<4->(q i).natAbs<=64):∃ r,cA (n+2) 349 [gh q]=some r/\∃ y b,r=.tup [y,.bool b]/\(b=true->∃ i,i<4/\q i≠0):=by
 rw[UV];delta GP qG qB qC qT qJ qZ iL iR Jn;refine Mz (q:=q) (λg s k hk g0 g1 s1=>?_) (λg s=>aa (z:=.bool false) rfl (aa (z:=false) rfl rfl)) (λg s g0 g1 s1 hz=>?_)
 ·have hi:D.idx (I (k:Int)) 4=some k:=aq hk;have hx:=tV (q:=q) hk;have hqk:=hq k hk;have hg:=SY (n) (a:=g) (b:=q k) (by omega) (by omega)
  have gle:Nat.gcd g.natAbs (q k).natAbs<=64:=oI (by omega) hqk
  refine⟨((Nat.gcd g.natAbs (q k).natAbs:Nat):Int),if q k=0 then s else sg (q k),aa (z:=.bool true) (by simp[D.bin]) (aa (z:=true) rfl (dY (aa (z:=(0,[I ((Nat.gcd g.natAbs (q k).natAbs:Nat):Int),I (if q k=0 then s else sg (q k))])) (aa hi (aa hx (aa hg (aa hi (aa hx ?_))))) (aa (z:=I ((k:Int)-1)) ?_ rfl)))),by omega,by omega,?_,?_⟩
  ·by_cases h:q k=0
   ·rw[h];exact aa (z:=false) rfl rfl
   ·rw[if_neg h];refine aa (z:=true) (by rw[bw];simp[h,D.truth]) (dY (aa hi (aa hx (aa (SZ n (q k)) rfl))))
  ·have:k=0\/k=1\/k=2\/k=3:=by omega
   rcases this with rfl|rfl|rfl|rfl<;>rfl
  ·split
   ·exact s1
   ·unfold sg;split<;>(try split)<;>decide
  ·intro h;by_cases h0:q k=0
   ·left;rw[if_pos h0] at h;exact h
   ·exact .inr h0
 ·have ms:(s*g).natAbs<=64:=by
   have:=zfb s1 (show g.natAbs<=64 by omega)
   rwa [<-zOa,zpc] at this
  refine cW (kX (a:=g) (by simp only[inR];omega)) (cW (z:=I g) ((A2 (a:=g) (b:=-g)).trans (by congr 2;omega)) (cW (bg (a:=s) (b:=g) (by simp only[inR];omega)) ?_))
  by_cases h:s*g=0
  ·rw[h];exact cW (z:=true) rfl ⟨_,rfl,_,false,rfl,λh=>by cases h⟩
  ·have hs:s≠0:=λh0=>h (by rw[h0,zNc])
   refine cW (z:=false) (by rw[bw,decide_eq_false h];rfl) ?_
   have qq:∀ x:Int,∃ z,D.bin .quo (I x) (I (s*g))=some z:=λx=>⟨D.int .i64 (IntKind.i64.wrap (x.tdiv (s*g))),by simp only[D.bin,if_true,if_neg h]⟩
   obtain⟨z0,e0⟩:=qq (q 0);obtain⟨z1,e1⟩:=qq (q 1);obtain⟨z2,e2⟩:=qq (q 2);obtain⟨z3,e3⟩:=qq (q 3);rw[if_neg (by decide)]
   exact cW (tV (i:=0) (by decide)) (cW e0 (cW (tV (i:=1) (by decide)) (cW e1 (cW (tV (i:=2) (by decide)) (cW e2 (cW (tV (i:=3) (by decide)) (cW e3 ⟨_,rfl,_,true,rfl,λ_=>hz hs⟩)))))))
end Sy
end
noncomputable section
namespace Sy
open Go Go.Proofs Geo
def SU(n:Nat)(q:Nat->Int):∃ v:Bool,cA (n+3) 331 [gh q]=some (.bool v)/\(v=true->Cb q=true/\∃ i,i<4/\q i≠0):=by
 rw[UP];delta GJ qT qN;have h348:=SV (n+1) q;cases hl:Cb q with
 | false=>
  rw[hl] at h348;exact⟨false,aa h348 (aa (z:=.bool true) rfl (aa (z:=true) rfl (dY rfl))),λh=>by cases h⟩
 | true=>
  rw[hl] at h348;obtain⟨r,h1,y,b,rfl,h2⟩:=SW n (AY hl);cases b with
  | false=>
   refine⟨false,aa h348 (aa (z:=.bool false) rfl (aa (z:=false) rfl ?_)),λh=>by cases h⟩
   rw[if_neg (by decide)]
   exact aa h1 (aa (z:=y) rfl (aa (z:=.bool false) rfl (aa (z:=false) rfl (aa (z:=false) rfl rfl))))
  | true=>
   refine⟨D.beq y (gh q),aa h348 (aa (z:=.bool false) rfl (aa (z:=false) rfl ?_)),λ_=>⟨rfl,h2 rfl⟩⟩;rw[if_neg (by decide)]
   exact aa h1 (aa (z:=y) rfl (aa (z:=.bool true) rfl (aa (z:=true) rfl (aa (z:=D.beq y (gh q)) (dY rfl) rfl))))
def cU(x:V)(q:Nat->Int):D:=.st [ag x,gh q]
end Sy
end
noncomputable section
namespace Sy
open Go Go.Proofs Geo
end Sy
end
noncomputable section
namespace Sy
open Go Go.Proofs Geo
end Sy
end
noncomputable section
namespace Sy
open Go Go.Proofs Geo
structure Bdy where
 nm:ByteArray
 P:List (List V)
 m0:Int
 m1:Int
 r0:Int
 r1:Int
def HR{v:V}{k:Int}(h:∀ t,t<3->eO v t<=k/\-k<=eO v t):bd k v:=by
 have a:=h 0 (by decide);have b:=h 1 (by decide);have c:=h 2 (by decide)
 simp only[eO,if_true,if_false,Nat.one_ne_zero,Nat.reduceEqDiff] at a b c;exact⟨⟨a.2,a.1⟩,⟨b.2,b.1⟩,⟨c.2,c.1⟩⟩
def rD{v:V}{i:Nat}(h:i<3):D.fld (ag v) i=some (I (eO v i)):=by
 have:i=0\/i=1\/i=2:=by omega
 rcases this with rfl|rfl|rfl<;>rfl
structure Hul(l:List V):Prop where
 len:l.length<=64
 bd:∀ x∈l,bd MV x
 srt:Fy l
 vtx:∀ k,k<l.length->LR (pt l) l.length k
 ex:∃ m d,IsF (pt l) l.length m d
def SK(n:Nat){l:List V}(h:l.length<=100):(∃ e:Int,cA (n+9) 15 [cF l]=some (I e)/\e≠0)\/(cA (n+9) 15 [cF l]=some (I 0)/\Hul l):=by
 rcases XC n (l:=l) h with⟨e,h1,h2⟩|⟨h1,h2,h3,F,h4,hne,_,h5⟩
 ·exact .inl ⟨e,h1,h2⟩
 ·right;have ho:=List.Pairwise.sublist (CU (dj l) F) (sM l);rw[h5] at ho;have hs:=E4 ho;rw[IF ho] at h4 h5;refine⟨h1,h2,h3,hs,λk hk=>?_,?_⟩
  ·refine Eh hs h4.fok ?_;have e:=congrArg List.length h5;unfold cV at e;rw[zCa] at e;have e2:((List.range l.length).filter (io F)).length=(List.range l.length).length:=by rw[e,zLb]
   exact List.length_filter_eq_length_iff.1 e2 k (zWa.2 hk)
  ·obtain⟨f,hf⟩:∃ f,f∈F:=List.exists_mem_of_ne_nil F (λe=>hne (by rw[e];rfl))
   exact⟨_,_,(h4.fok.ok f hf).1⟩
def Hul.pos{l:List V}(h:Hul l):0<l.length:=by
 obtain⟨m,d,hF⟩:=h.ex;obtain⟨i,j,k,h1,h2,h3,_⟩:=hF.ex;omega
end Sy
end
noncomputable section
namespace Sy
open Go Go.Proofs Geo
end Sy
end
noncomputable section
namespace Sy
open Go Go.Proofs Geo
def nZ{k:Nat}{v:V}(h:bd (k:Int) v):v.x.natAbs<=k/\v.y.natAbs<=k/\v.z.natAbs<=k:=by
 unfold bd at h;omega
structure BOk(b:Bdy):Prop where
 one:1<=b.P.length
 few:b.P.length<=3
 vs:∀ l∈b.P,l.length<=10
 hul:∀ l∈b.P,Hul l
 bd:∀ l∈b.P,∀ x∈l,bd 4096 x
 m0:1<=b.m0
 m1:b.m0<=b.m1
 m2:b.m1<=1099511627776
end Sy
end
noncomputable section
namespace Sy
open Go Go.Proofs Geo
def xI{body:Bd}{k:Nat×List D->Option D}{y:D}{l0:List D}(x:Nat->D)(h0:l0.length=3)
  (hs:∀ i:Nat,i<3->∀ l:List D,l.length=3->(∀ j:Nat,i<=j->l[j]?=l0[j]?)->body [I (i:Int),.st l]=some (.inl [I ((i+1:Nat):Int),.st (l.set i (x i))]))
  (he:∀ l,body [I ((3:Nat):Int),.st l]=some (.inr (0,[.st l]))) (hk:k (0,[.st [x 0,x 1,x 2]])=some y):Option.bind (aO body [I ((0:Nat):Int),.st l0]) k=some y:=by
 match l0,h0 with
 | [a,b,c],_=>
 have s0:=hs 0 (by decide) [a,b,c] rfl (λj _=>rfl)
 have s1:=hs 1 (by decide) [x 0,b,c] rfl (λj hj=>by cases j with|zero=>omega|succ j=>rfl)
 have s2:=hs 2 (by decide) [x 0,x 1,c] rfl (λj hj=>by cases j with|zero=>omega|succ j=>cases j with|zero=>omega|succ j=>rfl)
 exact be s0 (be s1 (be s2 (dZ (he _) hk)))
abbrev WV:=Nat->Option Rat
def df(v:WV):D:=.st [bh (v 0),bh (v 1),bh (v 2)]
def yO(v:WV):Prop:=∀ i,OW (v i)
def Fi(v:V):WV:=λi=>some (eO v i:Rat)
def jD{i:Nat}(h:i<3)(v:WV):D.get (df v) [i]=some (bh (v i)):=by
 have:i=0\/i=1\/i=2:=by omega
 rcases this with rfl|rfl|rfl<;>rfl
def ws{v:V}(h:∀ i,inR (eO v i)):yO (Fi v):=λi=>cK (Af (bR (h i)))
def rH{v:V}(h1:inR v.x)(h2:inR v.y)(h3:inR v.z)(i:Nat):inR (eO v i):=by
 unfold eO;split<;>(try split)<;>assumption
def I2(n:Nat){v:V}(h:∀ i,inR (eO v i)):cA (n+1033) 135 [ag v]=some (df (Fi v)):=SC n (h 0) (h 1) (h 2)
def Md(n:Nat){v:V}(h:∀ i,inR (eO v i)):cA (n+7) 31 [ag v]=some (df (Fi v)):=XD n (h 0) (h 1) (h 2)
def C1{a:Option Rat}(h:OW a):kj (some 0) a=a:=by
 cases a with
 | none=>rfl
 | some x=>
  have e:kj (some 0) (some x)=some (0+x):=Dy ⟨by simpa using aZ.1 h.some.1,by simpa using aZ.1 h.some.2⟩
  rw[e,Rat.zero_add]
def zi(u v:WV):Option Rat:=kj (kj (mA (u 0) (v 0)) (mA (u 1) (v 1))) (mA (u 2) (v 2))
def AP(u v:WV):OW (zi u v):=ld _ _
def L1(n:Nat){u v:WV}(hu:yO u)(hv:yO v):cA (n+1033) 134 [df u,df v]=some (bh (zi u v)):=by
 rw[Uh];delta Gb qB qC qJ qZ iL iR Jn;refine aa (Mv n (gP 0)) ?_;have st:∀ i:Nat,i<3->∀ a,OW a->(Option.bind (D.bin .lss (List.getD [I (i:Int),bh a] 0 (.bool false)) (D.int .i64 3)) λx3=>Option.bind (D.truth x3) λb4=>
   if b4 then(Option.bind (D.idx (List.getD [I (i:Int),bh a] 0 (.bool false)) 3) λi5=>Option.bind (D.get (df u) [i5]) λx6=>Option.bind (D.idx (List.getD [I (i:Int),bh a] 0 (.bool false)) 3) λi7=>Option.bind (D.get (df v) [i7]) λx8=>
    Option.bind (cA (n+1032) 174 [x6,x8]) λr9=>Option.bind (cA (n+1032) 173 [(List.getD [I (i:Int),bh a] 1 (.bool false)),r9]) λr10=>Option.bind (D.bin .add (List.getD [I (i:Int),bh a] 0 (.bool false)) (D.int .i64 1)) λx11=>some (Sum.inl [x11,r10]))
   else(some (Sum.inr ((0:Nat),[(List.getD [I (i:Int),bh a] 1 (.bool false))]))))=some (Sum.inl [I ((i+1:Nat):Int),bh (kj a (mA (u i) (v i)))]):=λi hi a ha=>
  aa ah (aa ab (aD (by show(i:Int)<3;omega) (aa (aq hi) (aa (jD hi u) (aa (aq hi) (aa (jD hi v) (aa (Ma (n+1) (hu i) (hv i)) (aa (DK (n+1) ha (nA _ _)) (aa (aM (a:=i) (b:=1) (by omega)) rfl)))))))))
 have z:OW (some (0:Rat)):=cK (Af (bR (gP 0)));have s0:=st 0 (by decide) (some 0) z
 have s1:=st 1 (by decide) (kj (some 0) (mA (u 0) (v 0))) (ld _ _)
 have s2:=st 2 (by decide) (kj (kj (some 0) (mA (u 0) (v 0))) (mA (u 1) (v 1))) (ld _ _)
 have e:=C1 (nA (u 0) (v 0));unfold zi;rw[<-e];exact be s0 (be s1 (be s2 (dZ (aa ah (aa ab (aH (by decide) rfl))) rfl)))
def Tp(n:Nat){u:V}{v:WV}(hu:∀ i,inR (eO u i))(hv:yO v):cA (n+1034) 72 [ag u,df v]=some (bh (zi (Fi u) v)):=by
 rw[Ya];unfold NK;exact aa (I2 n hu) (aa (L1 n (ws hu) hv) rfl)
def S8(n:Nat){u v:WV}(hu:yO u)(hv:yO v):cA (n+8) 41 [df u,df v]=some (bh (zi u v)):=by
 rw[XW];delta Ny qG;exact aa (jD (by decide) u) (aa (jD (by decide) v) (aa (JU n (hu 0) (hv 0)) (aa (jD (by decide) u) (aa (jD (by decide) v) (aa (JU n (hu 1) (hv 1)) (aa (JV n (nA _ _) (nA _ _)) (aa (jD (by decide) u) (aa (jD (by decide) v) (aa (JU n (hu 2) (hv 2)) (aa (JV n (ld _ _) (nA _ _)) rfl))))))))))
def Mg(n:Nat){u:V}{v:WV}(hu:∀ i,inR (eO u i))(hv:yO v):cA (n+9) 340 [ag u,df v]=some (bh (zi (Fi u) v)):=by
 rw[UR];unfold GL;exact aa (Md (n+1) hu) (aa (S8 n (ws hu) hv) rfl)
def sG{l:List D}{i:Nat}{v:D}(h:i<l.length):D.set (.st l) [i] v=some (.st (l.set i v)):=by
 simp only[D.set,zda h,zba]
end Sy
end
noncomputable section
namespace Sy
open Go Go.Proofs Geo
def LT(l:List D):Bd:=λ(v1:List D)=>
 Option.bind (D.bin .add (gx v1 1) (D.int .i64 1)) λx2=>Option.bind (D.asSl (.sl l)) λl3=>Option.bind (D.bin .lss x2 (D.int .i64 (l3.length))) λx4=>Option.bind (D.truth x4) λb5=>
 if b5 then(Option.bind (D.asSl (.sl l)) λl6=>Option.bind (D.idx (gx v1 1) (l6.length)) λi7=>Option.bind (l6[i7]?) λx8=>Option.bind (D.bin .add (gx v1 1) (D.int .i64 1)) λx9=>
  Option.bind (D.asSl (.sl l)) λl10=>Option.bind (D.idx x9 (l10.length)) λi11=>Option.bind (l10[i11]?) λx12=>Option.bind (D.bin .mul x8 x12) λx13=>Option.bind (D.bin .add (gx v1 0) x13) λx14=>
  Option.bind (D.bin .add (gx v1 1) (D.int .i64 2)) λx15=>some (Sum.inl [x14,x15])) else(some (Sum.inr (0,[(gx v1 0)])))
def fe{l:List D}(k:Nat){s a b t:Int}(hl:l.length<=100)(ha:l[k]?=some (I a))(hb:l[k+1]?=some (I b))(h1:inR (a*b))(h2:inR (s+a*b))(ht:s+a*b=t):LT l [I s,I (k:Int)]=some (.inl [I t,I ((k+2:Nat):Int)]):=by
 have k1:=(zia.1 hb).1;subst ht;exact aa (aM (a:=k) (b:=1) (by omega)) (aa (z:=l) rfl (aa ah (aa ab (aD (by show((k+1:Nat):Int)<(l.length:Int);omega) (aa (z:=l) rfl (aa (aq (by omega)) (aa ha (aa (aM (a:=k) (b:=1) (by omega)) (aa (z:=l) rfl (aa (aq k1) (aa hb (aa (bg h1) (aa (au h2) (aa (aM (a:=k) (b:=2) (by omega)) rfl))))))))))))))
def wj{l:List D}(k:Nat){s:Int}(hl:l.length<=100)(hk:l.length=k):LT l [I s,I (k:Int)]=some (.inr (0,[I s])):=
 aa (aM (a:=k) (b:=1) (by omega)) (aa (z:=l) rfl (aa ah (aa ab (aH (by show ¬ (((k+1:Nat):Int)<(l.length:Int));omega) rfl))))
def n9(n:Nat){a b c d:Int}(h1:inR (a*b))(h2:inR (c*d))(h3:inR (a*b+c*d)):cA (n+1) 394 [.sl [I a,I b,I c,I d]]=some (I (a*b+c*d)):=by
 rw[KH];delta BA qB qX qL qZ iL iR Jn;exact be (fe 0 (l:=[I a,I b,I c,I d]) (s:=0) (t:=a*b) (by simp) rfl rfl h1 (by rw[zkc];exact h1) (zkc _)) (be (fe 2 (by simp) rfl rfl h2 h3 rfl) (dZ (wj 4 (by simp) rfl) rfl))
def DN(n:Nat){a b c d e f:Int}(h1:inR (a*b))(h2:inR (c*d))(h3:inR (a*b+c*d))(h4:inR (e*f))(h5:inR (a*b+c*d+e*f)):cA (n+1) 394 [.sl [I a,I b,I c,I d,I e,I f]]=some (I (a*b+c*d+e*f)):=by
 rw[KH];delta BA qB qX qL qZ iL iR Jn;exact be (fe 0 (l:=[I a,I b,I c,I d,I e,I f]) (s:=0) (t:=a*b) (by simp) rfl rfl h1 (by rw[zkc];exact h1) (zkc _)) (be (fe 2 (by simp) rfl rfl h2 h3 rfl) (be (fe 4 (by simp) rfl rfl h4 h5 rfl) (dZ (wj 6 (by simp) rfl) rfl)))
def u6(n:Nat){a b c d e f g h:Int}(h1:inR (a*b))(h2:inR (c*d))(h3:inR (a*b+c*d))(h4:inR (e*f))(h5:inR (a*b+c*d+e*f))(h6:inR (g*h))(h7:inR (a*b+c*d+e*f+g*h)) :
  cA (n+1) 394 [.sl [I a,I b,I c,I d,I e,I f,I g,I h]]=some (I (a*b+c*d+e*f+g*h)):=by
 rw[KH];delta BA qB qX qL qZ iL iR Jn;exact be (fe 0 (l:=[I a,I b,I c,I d,I e,I f,I g,I h]) (s:=0) (t:=a*b) (by simp) rfl rfl h1 (by rw[zkc];exact h1) (zkc _)) (be (fe 2 (by simp) rfl rfl h2 h3 rfl) (be (fe 4 (by simp) rfl rfl h4 h5 rfl) (be (fe 6 (by simp) rfl rfl h6 h7 rfl) (dZ (wj 8 (by simp) rfl) rfl))))
def fa(q:Nat->Int):Nat->Int
 | 0=>q 0*q 0+q 1*q 1-q 2*q 2-q 3*q 3
 | 1=>2*(q 1*q 2-q 0*q 3)
 | 2=>2*(q 1*q 3+q 0*q 2)
 | 3=>2*(q 1*q 2+q 0*q 3)
 | 4=>q 0*q 0-q 1*q 1+q 2*q 2-q 3*q 3
 | 5=>2*(q 2*q 3-q 0*q 1)
 | 6=>2*(q 1*q 3-q 0*q 2)
 | 7=>2*(q 2*q 3+q 0*q 1)
 | _=>q 0*q 0-q 1*q 1-q 2*q 2+q 3*q 3
def D1(m:Nat->Int):D:=.st [I (m 0),I (m 1),I (m 2),I (m 3),I (m 4),I (m 5),I (m 6),I (m 7),I (m 8)]
def gk{k:Nat}(h:k<9)(m:Nat->Int):D.get (D1 m) [k]=some (I (m k)):=by
 match k,h with
 | 0,_=>rfl
 | 1,_=>rfl
 | 2,_=>rfl
 | 3,_=>rfl
 | 4,_=>rfl
 | 5,_=>rfl
 | 6,_=>rfl
 | 7,_=>rfl
 | 8,_=>rfl
 | k+9,h=>omega
def yH(q:Nat->Int):Prop:=∀ i,i<4->(q i).natAbs<=64
def qq{q:Nat->Int}(h:yH q){i j:Nat}(hi:i<4)(hj:j<4):-4096<=q i*q j/\q i*q j<=4096:=by
 have:(q i*q j).natAbs<=64*64:=by rw[zOa];exact zfb (h i hi) (h j hj)
 omega
def ao{x:Int}(h:-4000000000<=x/\x<=4000000000):inR x:=by simp only[inR];omega
def dw{q:Nat->Int}(h:yH q)(k:Nat):-16384<=fa q k/\fa q k<=16384:=by
 have a00:=qq h (i:=0) (j:=0) (by decide) (by decide);have a11:=qq h (i:=1) (j:=1) (by decide) (by decide);have a22:=qq h (i:=2) (j:=2) (by decide) (by decide);have a33:=qq h (i:=3) (j:=3) (by decide) (by decide)
 have a01:=qq h (i:=0) (j:=1) (by decide) (by decide);have a02:=qq h (i:=0) (j:=2) (by decide) (by decide);have a03:=qq h (i:=0) (j:=3) (by decide) (by decide)
 have a12:=qq h (i:=1) (j:=2) (by decide) (by decide);have a13:=qq h (i:=1) (j:=3) (by decide) (by decide);have a23:=qq h (i:=2) (j:=3) (by decide) (by decide)
 unfold fa;split<;>omega
def Al{a:Int}(h:inR (-a)):D.un .neg (I a)=some (I (-a)):=by
 simp only[D.un,Int.zero_sub];rw[gD h]
def jX{a b:Int}(hb:2*a=b)(h:inR b):D.bin .mul (D.int .i64 2) (I a)=some (I b):=by
 subst hb;exact bg h
def Mn(n:Nat){q:Nat->Int}(h:yH q):cA (n+2) 393 [gh q]=some (D1 (fa q)):=by
 have a00:=qq h (i:=0) (j:=0) (by decide) (by decide);have a11:=qq h (i:=1) (j:=1) (by decide) (by decide);have a22:=qq h (i:=2) (j:=2) (by decide) (by decide);have a33:=qq h (i:=3) (j:=3) (by decide) (by decide)
 have a01:=qq h (i:=0) (j:=1) (by decide) (by decide);have a02:=qq h (i:=0) (j:=2) (by decide) (by decide);have a03:=qq h (i:=0) (j:=3) (by decide) (by decide)
 have a12:=qq h (i:=1) (j:=2) (by decide) (by decide);have a13:=qq h (i:=1) (j:=3) (by decide) (by decide);have a23:=qq h (i:=2) (j:=3) (by decide) (by decide)
 have h0:=h 0 (by decide);have h1:=h 1 (by decide);have h2:=h 2 (by decide);have h3:=h 3 (by decide)
 have n0:D.un .neg (I (q 0))=some (I (-(q 0))):=Al (ao (by omega))
 have n1:D.un .neg (I (q 1))=some (I (-(q 1))):=Al (ao (by omega))
 have n2:D.un .neg (I (q 2))=some (I (-(q 2))):=Al (ao (by omega))
 have n3:D.un .neg (I (q 3))=some (I (-(q 3))):=Al (ao (by omega))
 have m:∀ a b:Int,-a*b=-(a*b):=λa b=>Int.neg_mul a b;rw[U5];delta GX qG qB Jn;refine aa (z:=I (q 0)) rfl (aa (z:=I (q 1)) rfl (aa (z:=I (q 2)) rfl (aa (z:=I (q 3)) rfl (aa n2 (aa n3 ?_)))));refine aa (u6 n (ao (by omega)) (ao (by omega)) (ao (by omega)) (ao (by rw[m];omega)) (ao (by rw[m];omega)) (ao (by rw[m];omega)) (ao (by rw[m,m];omega))) ?_
 refine aa n0 (aa (n9 n (ao (by omega)) (ao (by rw[m];omega)) (ao (by rw[m];omega))) (aa (jX (b:=fa q 1) (by show _=2*(q 1*q 2-q 0*q 3);rw[m];omega) (ao (by have:=dw h 1;omega))) ?_))
 refine aa (n9 n (ao (by omega)) (ao (by omega)) (ao (by omega))) (aa (jX (b:=fa q 2) rfl (ao (by have:=dw h 2;omega))) ?_)
 refine aa (n9 n (ao (by omega)) (ao (by omega)) (ao (by omega))) (aa (jX (b:=fa q 3) rfl (ao (by have:=dw h 3;omega))) ?_)
 refine aa n1 (aa n3 (aa (u6 n (ao (by omega)) (ao (by rw[m];omega)) (ao (by rw[m];omega)) (ao (by omega)) (ao (by rw[m];omega)) (ao (by rw[m];omega)) (ao (by rw[m,m];omega))) ?_))
 refine aa n0 (aa (n9 n (ao (by omega)) (ao (by rw[m];omega)) (ao (by rw[m];omega))) (aa (jX (b:=fa q 5) (by show _=2*(q 2*q 3-q 0*q 1);rw[m];omega) (ao (by have:=dw h 5;omega))) ?_))
 refine aa n0 (aa (n9 n (ao (by omega)) (ao (by rw[m];omega)) (ao (by rw[m];omega))) (aa (jX (b:=fa q 6) (by show _=2*(q 1*q 3-q 0*q 2);rw[m];omega) (ao (by have:=dw h 6;omega))) ?_))
 refine aa (n9 n (ao (by omega)) (ao (by omega)) (ao (by omega))) (aa (jX (b:=fa q 7) rfl (ao (by have:=dw h 7;omega))) ?_)
 refine aa n1 (aa n2 (aa (u6 n (ao (by omega)) (ao (by rw[m];omega)) (ao (by rw[m];omega)) (ao (by rw[m];omega)) (ao (by rw[m,m];omega)) (ao (by omega)) (ao (by rw[m,m];omega))) ?_))
 have e0:q 0*q 0+q 1*q 1+-(q 2)*q 2+-(q 3)*q 3=fa q 0:=by show _=q 0*q 0+q 1*q 1-q 2*q 2-q 3*q 3;rw[m,m];omega
 have e4:q 0*q 0+-(q 1)*q 1+q 2*q 2+-(q 3)*q 3=fa q 4:=by show _=q 0*q 0-q 1*q 1+q 2*q 2-q 3*q 3;rw[m,m];omega
 have e8:q 0*q 0+-(q 1)*q 1+-(q 2)*q 2+q 3*q 3=fa q 8:=by show _=q 0*q 0-q 1*q 1-q 2*q 2+q 3*q 3;rw[m,m];omega
 rw[e0,e4,e8];rfl
def Mm(n:Nat){q:Nat->Int}(h:yH q):cA (n+1) 387 [gh q]=some (D1 (fa q)):=by
 have a00:=qq h (i:=0) (j:=0) (by decide) (by decide);have a11:=qq h (i:=1) (j:=1) (by decide) (by decide);have a22:=qq h (i:=2) (j:=2) (by decide) (by decide);have a33:=qq h (i:=3) (j:=3) (by decide) (by decide)
 have a01:=qq h (i:=0) (j:=1) (by decide) (by decide);have a02:=qq h (i:=0) (j:=2) (by decide) (by decide);have a03:=qq h (i:=0) (j:=3) (by decide) (by decide)
 have a12:=qq h (i:=1) (j:=2) (by decide) (by decide);have a13:=qq h (i:=1) (j:=3) (by decide) (by decide);have a23:=qq h (i:=2) (j:=3) (by decide) (by decide)
 have mm:∀ {a b:Int},-4096<=a*b/\a*b<=4096->D.bin .mul (I a) (I b)=some (I (a*b)):=λh=>bg (ao (by omega))
 rw[U2];delta GU qG qB Jn;refine aa (z:=I (q 0)) rfl (aa (z:=I (q 1)) rfl (aa (z:=I (q 2)) rfl (aa (z:=I (q 3)) rfl ?_)));refine aa (mm a00) (aa (mm a11) (aa (au (ao (by omega))) (aa (mm a22) (aa (bH (ao (by omega))) (aa (mm a33) (aa (bH (ao (by omega))) ?_))))))
 refine aa (mm a12) (aa (mm a03) (aa (bH (ao (by omega))) (aa (jX (b:=fa q 1) rfl (ao (by have:=dw h 1;omega))) ?_)))
 refine aa (mm a13) (aa (mm a02) (aa (au (ao (by omega))) (aa (jX (b:=fa q 2) rfl (ao (by have:=dw h 2;omega))) ?_)))
 refine aa (mm a12) (aa (mm a03) (aa (au (ao (by omega))) (aa (jX (b:=fa q 3) rfl (ao (by have:=dw h 3;omega))) ?_)))
 refine aa (mm a00) (aa (mm a11) (aa (bH (ao (by omega))) (aa (mm a22) (aa (au (ao (by omega))) (aa (mm a33) (aa (bH (ao (by omega))) ?_))))))
 refine aa (mm a23) (aa (mm a01) (aa (bH (ao (by omega))) (aa (jX (b:=fa q 5) rfl (ao (by have:=dw h 5;omega))) ?_)))
 refine aa (mm a13) (aa (mm a02) (aa (bH (ao (by omega))) (aa (jX (b:=fa q 6) rfl (ao (by have:=dw h 6;omega))) ?_)))
 refine aa (mm a23) (aa (mm a01) (aa (au (ao (by omega))) (aa (jX (b:=fa q 7) rfl (ao (by have:=dw h 7;omega))) ?_)))
 refine aa (mm a00) (aa (mm a11) (aa (bH (ao (by omega))) (aa (mm a22) (aa (bH (ao (by omega))) (aa (mm a33) (aa (au (ao (by omega))) ?_))))))
 rfl
def cC(q:Nat->Int)(v:V)(i:Nat):Int:=fa q (3*i)*v.x+fa q (3*i+1)*v.y+fa q (3*i+2)*v.z
def fk(q:Nat->Int):Int:=q 0*q 0+q 1*q 1+q 2*q 2+q 3*q 3
def nB{q:Nat->Int}(h:yH q)(k:Nat){x:Int}(hx:x.natAbs<=4096):-67108864<=fa q k*x/\fa q k*x<=67108864:=by
 have:=dw h k;have:(fa q k*x).natAbs<=16384*4096:=by rw[zOa];exact zfb (by omega) hx
 omega
def fg{q:Nat->Int}(h:yH q){v:V}(hv:bd 4096 v)(i:Nat):-201326592<=cC q v i/\cC q v i<=201326592:=by
 obtain⟨v1,v2,v3⟩:=nZ (k:=4096) hv;have a:=nB h (3*i) v1;have b:=nB h (3*i+1) v2;have c:=nB h (3*i+2) v3;unfold cC;omega
def vX{q:Nat->Int}(h:yH q)(h0:∃ i,i<4/\q i≠0):0<fk q/\fk q<=16384:=by
 have a00:=qq h (i:=0) (j:=0) (by decide) (by decide);have a11:=qq h (i:=1) (j:=1) (by decide) (by decide);have a22:=qq h (i:=2) (j:=2) (by decide) (by decide);have a33:=qq h (i:=3) (j:=3) (by decide) (by decide)
 have p0:=kV (q 0);have p1:=kV (q 1);have p2:=kV (q 2);have p3:=kV (q 3);have pos:∀ x:Int,x≠0->0<x*x:=λx hx=>by
  have:=kV x;rcases zAb this with h|h
  ·exact h
  ·rcases zZc.1 h.symm with h|h<;>exact absurd h hx
 obtain⟨i,hi,hq⟩:=h0;have hp:=pos _ hq;unfold fk;refine⟨?_,by omega⟩
 match i,hi with
 | 0,_=>omega
 | 1,_=>omega
 | 2,_=>omega
 | 3,_=>omega
 | k+4,h=>omega
def vl(f:Nat->Int):D:=.st [I (f 0),I (f 1),I (f 2)]
def p8{k:Nat}(h:k<9):D.idx (I (k:Int)) 9=some k:=aq h
def S5(n:Nat){q:Nat->Int}(h:yH q){v:V}(hv:bd 4096 v):cA (n+3) 386 [gh q,ag v]=some (vl (cC q v)):=by
 obtain⟨v1,v2,v3⟩:=nZ (k:=4096) hv;rw[Nh];delta Dq qG qB qC qJ qZ iL iR Jn;refine aa (Mn n h) ?_;refine xI (l0:=[I 0,I 0,I 0]) (λi=>I (cC q v i)) rfl (λi hi l hl hj=>?_) (λl=>aa ah (aa ab (aH (by decide) rfl))) rfl
 have a:=nB h (3*i) v1;have b:=nB h (3*i+1) v2;have c:=nB h (3*i+2) v3;have k0:D.bin .mul (D.int .i64 3) (I (i:Int))=some (I ((3*i:Nat):Int)):=ju (a:=3) (b:=i) (by omega)
 have k1:D.bin .add (I ((3*i:Nat):Int)) (D.int .i64 1)=some (I ((3*i+1:Nat):Int)):=aM (a:=3*i) (b:=1) (by omega)
 have k2:D.bin .add (I ((3*i:Nat):Int)) (D.int .i64 2)=some (I ((3*i+2:Nat):Int)):=aM (a:=3*i) (b:=2) (by omega)
 refine aa ah (aa ab (aD (by show(i:Int)<3;omega) ?_))
 refine aa k0 (aa (p8 (by omega)) (aa (gk (by omega) _) (aa (z:=I v.x) rfl ?_)))
 refine aa k0 (aa k1 (aa (p8 (by omega)) (aa (gk (by omega) _) (aa (z:=I v.y) rfl ?_))))
 refine aa k0 (aa k2 (aa (p8 (by omega)) (aa (gk (by omega) _) (aa (z:=I v.z) rfl ?_))))
 refine aa (DN (n+1) (ao (by omega)) (ao (by omega)) (ao (by omega)) (ao (by omega)) (ao (by omega))) ?_
 exact aa (aq hi) (aa (sG (by omega)) (aa (aM (a:=i) (b:=1) (by omega)) rfl))
def S4(n:Nat){q:Nat->Int}(h:yH q){v:V}(hv:bd 4096 v):cA (n+2) 373 [gh q,ag v]=some (vl (cC q v)):=by
 obtain⟨v1,v2,v3⟩:=nZ (k:=4096) hv;rw[Ng];delta Dp qG qB qC qJ qZ iL iR Jn;refine aa (Mm n h) ?_;refine xI (l0:=[I 0,I 0,I 0]) (λi=>I (cC q v i)) rfl (λi hi l hl hj=>?_) (λl=>aa ah (aa ab (aH (by decide) rfl))) rfl
 have a:=nB h (3*i) v1;have b:=nB h (3*i+1) v2;have c:=nB h (3*i+2) v3;have k0:D.bin .mul (D.int .i64 3) (I (i:Int))=some (I ((3*i:Nat):Int)):=ju (a:=3) (b:=i) (by omega)
 have k1:D.bin .add (I ((3*i:Nat):Int)) (D.int .i64 1)=some (I ((3*i+1:Nat):Int)):=aM (a:=3*i) (b:=1) (by omega)
 have k2:D.bin .add (I ((3*i:Nat):Int)) (D.int .i64 2)=some (I ((3*i+2:Nat):Int)):=aM (a:=3*i) (b:=2) (by omega)
 refine aa ah (aa ab (aD (by show(i:Int)<3;omega) ?_))
 refine aa k0 (aa (p8 (by omega)) (aa (gk (by omega) _) (aa (z:=I v.x) rfl (aa (bg (ao (by omega))) ?_))))
 refine aa k0 (aa k1 (aa (p8 (by omega)) (aa (gk (by omega) _) (aa (z:=I v.y) rfl (aa (bg (ao (by omega))) (aa (au (ao (by omega))) ?_))))))
 refine aa k0 (aa k2 (aa (p8 (by omega)) (aa (gk (by omega) _) (aa (z:=I v.z) rfl (aa (bg (ao (by omega))) (aa (au (ao (by omega))) ?_))))))
 exact aa (aq hi) (aa (sG (by omega)) (aa (aM (a:=i) (b:=1) (by omega)) rfl))
def Mk(n:Nat){q:Nat->Int}(h:yH q):cA (n+3) 385 [gh q]=some (I (fk q)):=by
 have a00:=qq h (i:=0) (j:=0) (by decide) (by decide);have a11:=qq h (i:=1) (j:=1) (by decide) (by decide);have a22:=qq h (i:=2) (j:=2) (by decide) (by decide);have a33:=qq h (i:=3) (j:=3) (by decide) (by decide)
 rw[U0];unfold GT;refine aa (z:=I (fk q)) ?_ rfl;rw[U4];delta GW qG;refine aa (z:=I (q 0)) rfl (aa (z:=I (q 0)) rfl (aa (z:=I (q 1)) rfl (aa (z:=I (q 1)) rfl (aa (z:=I (q 2)) rfl (aa (z:=I (q 2)) rfl (aa (z:=I (q 3)) rfl (aa (z:=I (q 3)) rfl ?_)))))));exact aa (u6 n (ao (by omega)) (ao (by omega)) (ao (by omega)) (ao (by omega)) (ao (by omega)) (ao (by omega)) (ao (by omega))) rfl
def JT(n:Nat){q:Nat->Int}(h:yH q):cA (n+2) 374 [gh q]=some (I (fk q)):=by
 have a00:=qq h (i:=0) (j:=0) (by decide) (by decide);have a11:=qq h (i:=1) (j:=1) (by decide) (by decide);have a22:=qq h (i:=2) (j:=2) (by decide) (by decide);have a33:=qq h (i:=3) (j:=3) (by decide) (by decide)
 rw[UZ];unfold GS;refine aa (z:=I (fk q)) ?_ rfl;rw[U3];delta GV qG qB;refine aa (z:=I (q 0)) rfl (aa (z:=I (q 0)) rfl (aa (bg (ao (by omega))) (aa (z:=I (q 1)) rfl (aa (z:=I (q 1)) rfl (aa (bg (ao (by omega))) (aa (au (ao (by omega))) ?_))))))
 exact aa (z:=I (q 2)) rfl (aa (z:=I (q 2)) rfl (aa (bg (ao (by omega))) (aa (au (ao (by omega))) (aa (z:=I (q 3)) rfl (aa (z:=I (q 3)) rfl (aa (bg (ao (by omega))) (aa (au (ao (by omega))) rfl)))))))
end Sy
end
noncomputable section
namespace Sy
open Go Go.Proofs Geo
def gq{x:Int}(h:-4611686018427387904<=x/\x<=4611686018427387904):inR x:=by simp only[inR];omega
def jI{q:Nat->Int}(h:yH q)(k:Nat){x:Int}(hx:x.natAbs<=1099511627776):-18014398509481984<=fa q k*x/\fa q k*x<=18014398509481984:=by
 have:=dw h k;have:(fa q k*x).natAbs<=16384*1099511627776:=by rw[zOa];exact zfb (by omega) hx
 omega
def Ml(n:Nat){q:Nat->Int}(h:yH q){v:V}(hv:bd 1099511627776 v):cA (n+3) 386 [gh q,ag v]=some (vl (cC q v)):=by
 obtain⟨v1,v2,v3⟩:=nZ (k:=1099511627776) hv;rw[Nh];delta Dq qG qB qC qJ qZ iL iR Jn;refine aa (Mn n h) ?_;refine xI (l0:=[I 0,I 0,I 0]) (λi=>I (cC q v i)) rfl (λi hi l hl hj=>?_) (λl=>aa ah (aa ab (aH (by decide) rfl))) rfl
 have a:=jI h (3*i) v1;have b:=jI h (3*i+1) v2;have c:=jI h (3*i+2) v3;have k0:D.bin .mul (D.int .i64 3) (I (i:Int))=some (I ((3*i:Nat):Int)):=ju (a:=3) (b:=i) (by omega)
 have k1:D.bin .add (I ((3*i:Nat):Int)) (D.int .i64 1)=some (I ((3*i+1:Nat):Int)):=aM (a:=3*i) (b:=1) (by omega)
 have k2:D.bin .add (I ((3*i:Nat):Int)) (D.int .i64 2)=some (I ((3*i+2:Nat):Int)):=aM (a:=3*i) (b:=2) (by omega)
 refine aa ah (aa ab (aD (by show(i:Int)<3;omega) ?_))
 refine aa k0 (aa (p8 (by omega)) (aa (gk (by omega) _) (aa (z:=I v.x) rfl ?_)))
 refine aa k0 (aa k1 (aa (p8 (by omega)) (aa (gk (by omega) _) (aa (z:=I v.y) rfl ?_))))
 refine aa k0 (aa k2 (aa (p8 (by omega)) (aa (gk (by omega) _) (aa (z:=I v.z) rfl ?_))))
 refine aa (DN (n+1) (gq (by omega)) (gq (by omega)) (gq (by omega)) (gq (by omega)) (gq (by omega))) ?_
 exact aa (aq hi) (aa (sG (by omega)) (aa (aM (a:=i) (b:=1) (by omega)) rfl))
def Mi(n:Nat){q:Nat->Int}(h:yH q){v:V}(hv:bd 1099511627776 v):cA (n+2) 373 [gh q,ag v]=some (vl (cC q v)):=by
 obtain⟨v1,v2,v3⟩:=nZ (k:=1099511627776) hv;rw[Ng];delta Dp qG qB qC qJ qZ iL iR Jn;refine aa (Mm n h) ?_;refine xI (l0:=[I 0,I 0,I 0]) (λi=>I (cC q v i)) rfl (λi hi l hl hj=>?_) (λl=>aa ah (aa ab (aH (by decide) rfl))) rfl
 have a:=jI h (3*i) v1;have b:=jI h (3*i+1) v2;have c:=jI h (3*i+2) v3;have k0:D.bin .mul (D.int .i64 3) (I (i:Int))=some (I ((3*i:Nat):Int)):=ju (a:=3) (b:=i) (by omega)
 have k1:D.bin .add (I ((3*i:Nat):Int)) (D.int .i64 1)=some (I ((3*i+1:Nat):Int)):=aM (a:=3*i) (b:=1) (by omega)
 have k2:D.bin .add (I ((3*i:Nat):Int)) (D.int .i64 2)=some (I ((3*i+2:Nat):Int)):=aM (a:=3*i) (b:=2) (by omega)
 refine aa ah (aa ab (aD (by show(i:Int)<3;omega) ?_))
 refine aa k0 (aa (p8 (by omega)) (aa (gk (by omega) _) (aa (z:=I v.x) rfl (aa (bg (gq (by omega))) ?_))))
 refine aa k0 (aa k1 (aa (p8 (by omega)) (aa (gk (by omega) _) (aa (z:=I v.y) rfl (aa (bg (gq (by omega))) (aa (au (gq (by omega))) ?_))))))
 refine aa k0 (aa k2 (aa (p8 (by omega)) (aa (gk (by omega) _) (aa (z:=I v.z) rfl (aa (bg (gq (by omega))) (aa (au (gq (by omega))) ?_))))))
 exact aa (aq hi) (aa (sG (by omega)) (aa (aM (a:=i) (b:=1) (by omega)) rfl))
end Sy
end
noncomputable section
namespace Sy
open Go Go.Proofs Geo
def pL(x:V)(q:Nat->Int)(v:V):V:=⟨cC q v 0+fk q*x.x,cC q v 1+fk q*x.y,cC q v 2+fk q*x.z⟩
def PB:Int:=2305843009415020544
structure PoseOk(x:V)(q:Nat->Int):Prop where
 hx:bd 140737488355327 x
 hq:yH q
 h0:∃ i,i<4/\q i≠0
def nQ{x:V}{q:Nat->Int}(h:PoseOk x q){a:Int}(ha:-140737488355327<=a/\a<=140737488355327):-2305843009213693952<=fk q*a/\fk q*a<=2305843009213693952:=by
 have s:=vX h.hq h.h0;have:(fk q*a).natAbs<=16384*140737488355327:=by rw[zOa];exact zfb (by omega) (by omega)
 omega
def Kw{x:V}{q:Nat->Int}(h:PoseOk x q){v:V}(hv:bd 4096 v):bd PB (pL x q v):=by
 have t0:=fg h.hq hv 0;have t1:=fg h.hq hv 1;have t2:=fg h.hq hv 2;have s0:=nQ h h.hx.1;have s1:=nQ h h.hx.2.1;have s2:=nQ h h.hx.2.2;simp only[bd,pL,PB];omega
def AH(x:V)(q:Nat->Int)(l:List V):D:=.st [cU x q,cF l,I (fk q),aX (l.map (pL x q))]
def Jl{x:V}{q:Nat->Int}{l:List V}{i:Nat}(hi:i<l.length):((l.take i).map λv=>ag (pL x q v))++[ag (pL x q l[i])]=(l.take (i+1)).map λv=>ag (pL x q v):=by
 rw[List.take_add_one,zda hi];simp only[Option.toList_some,zhc,z7a,List.map_nil]
def HG(n:Nat){x:V}{q:Nat->Int}(h:PoseOk x q){l:List V}(hl:∀ v∈l,bd 4096 v)(hlen:l.length<=100):cA (n+4) 433 [cU x q,cF l]=some (AH x q l):=by
 rw[Vg];delta G9 qG qB qC qS qX qJ qV qW qZ iL iR Jn;refine aa (z:=gh q) rfl (aa (Mk n h.hq) (aa (z:=aX l) rfl (aa (z:=l.map ag) rfl ?_)));obtain⟨Z,hZ⟩:∃ Z,D.st [D.st [I 0,I 0,I 0],D.st [I 0,I 0,I 0,I 0]]=Z:=⟨_,rfl⟩;refine cN (λi s=>s=[I (i:Int),Z,.sl [],I 0,.sl [],cU x q,cF l,I (fk q),.sl ((l.take i).map λv=>ag (pL x q v))]) l.length 0 (zoa _) (by rw[<-hZ];rfl) (λi hi s hs=>?_) (λs hs=>?_)
 ·subst hs;left;have hv:bd 4096 l[i]:=hl _ (zLa hi);have t0:=fg h.hq hv 0;have t1:=fg h.hq hv 1;have t2:=fg h.hq hv 2;have s0:=nQ h h.hx.1;have s1:=nQ h h.hx.2.1;have s2:=nQ h h.hx.2.2;refine⟨_,?_,rfl⟩;refine aa ah (aa ab (aD (by rw[aF];omega) ?_))
  refine aa (z:=l.map ag) rfl (aa (z:=i) (by rw[aF];exact aq hi) (aa (z:=ag l[i]) (by simp[hi]) ?_))
  refine aa (z:=gh q) rfl (aa (S5 n h.hq hv) ?_);obtain⟨L,hL⟩:∃ L,((l.take i).map λv=>ag (pL x q v))=L:=⟨_,rfl⟩;obtain⟨v,hv'⟩:∃ v,l[i]=v:=⟨_,rfl⟩;rw[<-Jl hi,hv',hL];rw[hv'] at t0 t1 t2;refine be (s':=[I 1,Z,.sl [],I 0,.sl [],cU x q,cF l,I (fk q),.sl L,.st [I (pL x q v).x,I (cC q v 1),I (cC q v 2)]]) ?_ (be (s':=[I 2,Z,.sl [],I 0,.sl [],cU x q,cF l,I (fk q),.sl L,.st [I (pL x q v).x,I (pL x q v).y,I (cC q v 2)]]) ?_ (be (s':=[I 3,Z,.sl [],I 0,.sl [],cU x q,cF l,I (fk q),.sl L,ag (pL x q v)]) ?_ (dZ (r:=(0,[Z,.sl [],I 0,.sl [],cU x q,cF l,I (fk q),.sl L,ag (pL x q v)])) ?_ ?_)))
  ·exact aa (z:=.bool true) rfl (aa (z:=true) rfl (dY (aa (z:=0) rfl (aa (z:=I (cC q v 0)) rfl (aa (z:=0) rfl (aa (z:=I x.x) rfl (aa (bg (gq (by omega))) (aa (au (by simp only[inR];omega)) (aa (z:=0) rfl (aa (z:=.st [I (pL x q v).x,I (cC q v 1),I (cC q v 2)]) rfl (aa (z:=I 1) rfl rfl)))))))))))
  ·exact aa (z:=.bool true) rfl (aa (z:=true) rfl (dY (aa (z:=1) rfl (aa (z:=I (cC q v 1)) rfl (aa (z:=1) rfl (aa (z:=I x.y) rfl (aa (bg (gq (by omega))) (aa (au (by simp only[inR];omega)) (aa (z:=1) rfl (aa (z:=.st [I (pL x q v).x,I (pL x q v).y,I (cC q v 2)]) rfl (aa (z:=I 2) rfl rfl)))))))))))
  ·exact aa (z:=.bool true) rfl (aa (z:=true) rfl (dY (aa (z:=2) rfl (aa (z:=I (cC q v 2)) rfl (aa (z:=2) rfl (aa (z:=I x.z) rfl (aa (bg (gq (by omega))) (aa (au (by simp only[inR];omega)) (aa (z:=2) rfl (aa (z:=ag (pL x q v)) rfl (aa (z:=I 3) rfl rfl)))))))))))
  ·exact aa (z:=.bool false) rfl (aa (z:=false) rfl rfl)
  ·have hn:List.length (D.els (.sl L))+List.length [ag (pL x q v)]<=1073741824:=by
    rw[<-hL];show((l.take i).map _).length+1<=_;simp;omega
   refine(if_pos hn).trans ?_;exact aa (aM (a:=i) (b:=1) (by omega)) rfl
 ·subst hs;refine⟨_,aa ah (aa ab (aH (by rw[aF];omega) rfl)),?_⟩
  rw[zzb (zha _)];simp only[AH,aX,List.map_map];rfl
def Tl(n:Nat){x:V}{q:Nat->Int}(h:PoseOk x q){l:List V}(hl:∀ v∈l,bd 4096 v)(hlen:l.length<=100):cA (n+3) 452 [cU x q,cF l]=some (aX (l.map (pL x q))):=by
 rw[Vp];delta Hi qG qB qY qM qV qW qZ iL iR Jn;refine aa (z:=gh q) rfl (aa (JT n h.hq) ?_);refine cN (λi s=>s=[.sl ((l.take i).map λv=>ag (pL x q v)),I (i:Int)]) l.length 0 (zoa _) rfl (λi hi s hs=>?_) (λs hs=>?_)
 ·subst hs;left;have hv:bd 4096 l[i]:=hl _ (zLa hi);have t0:=fg h.hq hv 0;have t1:=fg h.hq hv 1;have t2:=fg h.hq hv 2;have s0:=nQ h h.hx.1;have s1:=nQ h h.hx.2.1;have s2:=nQ h h.hx.2.2;refine⟨_,?_,rfl⟩;refine aa (z:=aX l) rfl (aa (z:=l.map ag) rfl (aa ah (aa ab (aD (by rw[aF];omega) ?_))))
  refine aa (z:=gh q) rfl (aa (z:=aX l) rfl (aa (z:=l.map ag) rfl (aa (z:=i) (by rw[aF];exact aq hi) (aa (z:=ag l[i]) (by simp[hi]) ?_))))
  refine aa (S4 n h.hq hv) ?_;rw[<-Jl hi];have hn:List.length (D.els (.sl ((l.take i).map λv=>ag (pL x q v))))+List.length [ag (pL x q l[i])]<=1073741824:=by
   show((l.take i).map _).length+1<=_;simp;omega
  refine aa (z:=I (cC q l[i] 0)) rfl (aa (z:=I x.x) rfl (aa (bg (gq (by omega))) (aa (au (by simp only[inR];omega)) ?_)))
  refine aa (z:=I (cC q l[i] 1)) rfl (aa (z:=I x.y) rfl (aa (bg (gq (by omega))) (aa (au (by simp only[inR];omega)) ?_)))
  refine aa (z:=I (cC q l[i] 2)) rfl (aa (z:=I x.z) rfl (aa (bg (gq (by omega))) (aa (au (by simp only[inR];omega)) ?_)))
  refine(if_pos hn).trans ?_;exact aa (aM (a:=i) (b:=1) (by omega)) rfl
 ·subst hs;refine⟨_,aa (z:=aX l) rfl (aa (z:=l.map ag) rfl (aa ah (aa ab (aH (by rw[aF];omega) rfl)))),?_⟩
  rw[zzb (zha _)];simp only[aX,List.map_map];rfl
end Sy
end
noncomputable section
namespace Sy
open Go Go.Proofs Geo
def NB:Int:=2305843009213693951
def BR{u v:V}(hu:bd NB u)(hv:bd PB v):(u.x*v.x).natAbs<=2^123/\(u.y*v.y).natAbs<=2^123/\(u.z*v.z).natAbs<=2^123:=by
 have key:∀ a b:Int,(-NB<=a/\a<=NB)->(-PB<=b/\b<=PB)->(a*b).natAbs<=2^123:=λa b ha hb=>by
  rw[zOa];simp only[NB,PB] at ha hb;exact jL (i:=61) (j:=62) (by rw[show(2:Nat)^61=2305843009213693952 from rfl];omega) (by rw[show(2:Nat)^62=4611686018427387904 from rfl];omega) (by decide)
 exact⟨key _ _ hu.1 hv.1,key _ _ hu.2.1 hv.2.1,key _ _ hu.2.2 hv.2.2⟩
def oC{u v:V}(hu:bd NB u)(hv:bd PB v):In (u.x*v.x)/\In (u.y*v.y)/\In (u.z*v.z)/\In (u.x*v.x+u.y*v.y)/\In (V.dot u v):=by
 obtain⟨h1,h2,h3⟩:=BR hu hv;have e1:=Int.natAbs_add_le (u.x*v.x) (u.y*v.y);have e2:=Int.natAbs_add_le (u.x*v.x+u.y*v.y) (u.z*v.z);exact⟨kh (by decide) h1,kh (by decide) h2,kh (by decide) h3,kh (k:=130) (by decide) (by omega),kh (k:=130) (by decide) (by unfold V.dot;omega)⟩
def Ei{u:V}(hu:bd NB u):inR u.x/\inR u.y/\inR u.z:=by simp only[bd,NB] at hu;simp only[inR];omega
def Ej{u:V}(hu:bd PB u):inR u.x/\inR u.y/\inR u.z:=by simp only[bd,PB] at hu;simp only[inR];omega
def Mw(n:Nat){u v:V}(hu:bd NB u)(hv:bd PB v):cA (n+6) 91 [ag u,ag v]=some (af (V.dot u v)):=by
 obtain⟨a1,a2,a3⟩:=Ei hu;obtain⟨b1,b2,b3⟩:=Ej hv;obtain⟨i1,i2,i3,j2,j3⟩:=oC hu hv;have j0:In 0:=bR (gP 0);rw[Yn];unfold NX;refine aa (L6 (n+2) a1 a2 a3) (aa (L6 (n+2) b1 b2 b3) (aa (z:=af (V.dot u v)) ?_ rfl));rw[Ur];delta Gl qB qC qJ qZ iL iR Jn;refine aa (C3 (n+2) (gP 0)) ?_;refine be (s':=[I 1,af (u.x*v.x)]) ?_ (be (s':=[I 2,af (u.x*v.x+u.y*v.y)]) ?_ (be (s':=[I 3,af (V.dot u v)]) ?_ (dZ (r:=(0,[af (V.dot u v)])) ?_ rfl)))
 ·exact aa (z:=.bool true) rfl (aa (z:=true) rfl (dY (aa (z:=0) rfl (aa (z:=af u.x) rfl (aa (z:=0) rfl (aa (z:=af v.x) rfl (aa (J0 (n+1) (bR a1) (bR b1) i1) (aa (HM n j0 i1 (by rw[zkc];exact i1)) (aa (z:=I 1) rfl (by rw[zkc]))))))))))
 ·exact aa (z:=.bool true) rfl (aa (z:=true) rfl (dY (aa (z:=1) rfl (aa (z:=af u.y) rfl (aa (z:=1) rfl (aa (z:=af v.y) rfl (aa (J0 (n+1) (bR a2) (bR b2) i2) (aa (HM n i1 i2 j2) (aa (z:=I 2) rfl rfl)))))))))
 ·exact aa (z:=.bool true) rfl (aa (z:=true) rfl (dY (aa (z:=2) rfl (aa (z:=af u.z) rfl (aa (z:=2) rfl (aa (z:=af v.z) rfl (aa (J0 (n+1) (bR a3) (bR b3) i3) (aa (HM n j2 i3 j3) (aa (z:=I 3) rfl rfl)))))))))
 ·exact aa (z:=.bool false) rfl (aa (z:=false) rfl rfl)
def JZ(n:Nat){x y:Int}(hx:In x)(hy:In y)(h:In (x*y)):cA (n+4) 89 [af x,af y]=some (af (x*y)):=by
 rw[BK n hx hy,qk h];rfl
def Mt(n:Nat){x y:Int}(hx:In x)(hy:In y)(h:In (x+y)):cA (n+4) 59 [af x,af y]=some (af (x+y)):=by
 have:=Ms n (a:=some x) (b:=some y) (ba hx) (ba hy);rw[Ai h] at this;exact this
def Mf(n:Nat){u v:V}(hu:bd NB u)(hv:bd PB v):cA (n+6) 33 [ag u,ag v]=some (af (V.dot u v)):=by
 obtain⟨a1,a2,a3⟩:=Ei hu;obtain⟨b1,b2,b3⟩:=Ej hv;obtain⟨i1,i2,i3,j2,j3⟩:=oC hu hv;rw[XT];unfold Nv;refine aa (Tq (n+1) a1 a2 a3) (aa (Tq (n+1) b1 b2 b3) (aa (z:=af (V.dot u v)) ?_ rfl));rw[Yg];delta NQ qG;refine aa (z:=af u.x) rfl (aa (z:=af v.x) rfl (aa (JZ n (bR a1) (bR b1) i1) (aa (z:=af u.y) rfl (aa (z:=af v.y) rfl (aa (JZ n (bR a2) (bR b2) i2) ?_)))));exact aa (Mt n i1 i2 j2) (aa (z:=af u.z) rfl (aa (z:=af v.z) rfl (aa (JZ n (bR a3) (bR b3) i3) (aa (Mt n j2 i3 j3) rfl))))
def yK(u:V)(L:List V):Nat->Int
 | 0=>V.dot u (pt L 0)
 | k+1=>if V.dot u (pt L (k+1))>yK u L k then V.dot u (pt L (k+1)) else yK u L k
def xR(u:V)(L:List V)(k:Nat):yK u L (k+1)=if V.dot u (pt L (k+1))>yK u L k then V.dot u (pt L (k+1)) else yK u L k:=rfl
def oW{L:List V}{i:Nat}(h:i<L.length):pt L i∈L:=by
 unfold pt;rw[z8a,zda h];exact zLa h
def vP{L:List V}{i:Nat}(h:i<L.length):(L.map ag)[i]?=some (ag (pt L i)):=by
 unfold pt;rw[z9a,z8a,zda h];rfl
theorem vH{u:V}{L:List V}(hu:bd NB u)(hL:∀ v∈L,bd PB v):∀ k,k<L.length->In (yK u L k)
 | 0,h=>(oC hu (hL _ (oW h))).2.2.2.2
 | k+1,h=>by
  unfold yK;split
  ·exact(oC hu (hL _ (oW h))).2.2.2.2
  ·exact vH hu hL k (by omega)
def AA(a b:Int):decide (bf a b>0)=decide (a>b):=by
 unfold bf;split<;>(try split)<;>simp<;>omega
def dh(u x:V)(q:Nat->Int)(l:List V):Rat:=Rat.divInt (yK u (l.map (pL x q)) (l.length-1)) (fk q)
def vO{x:V}{q:Nat->Int}(h:PoseOk x q){l:List V}(hl:∀ v∈l,bd 4096 v):∀ v∈l.map (pL x q),bd PB v:=λv hv=>by
 obtain⟨w,hw,rfl⟩:=zsb.1 hv;exact Kw h (hl w hw)
def vY{x:V}{q:Nat->Int}(h:PoseOk x q):inR (fk q)/\fk q≠0:=by
 have:=vX h.hq h.h0;exact⟨by simp only[inR];omega,by omega⟩
def fZ{u x:V}{q:Nat->Int}(hu:bd NB u)(h:PoseOk x q){l:List V}(hl:∀ v∈l,bd 4096 v)(h0:0<l.length):yL (dh u x q l):=
 ft (vH hu (vO h hl) _ (by simp;omega)) (bR (vY h).1) (vY h).2
def HH(n:Nat){u x:V}{q:Nat->Int}(hu:bd NB u)(h:PoseOk x q){l:List V}(hl:∀ v∈l,bd 4096 v)(h0:0<l.length)(hlen:l.length<=100):cA (n+1031) 435 [AH x q l,ag u]=some (fV (dh u x q l)):=by
 have hs:=vY h;have hP:=vO h hl;have hin:=vH hu hP;unfold AH dh;obtain⟨L,hL⟩:∃ L,l.map (pL x q)=L:=⟨_,rfl⟩;have hk:L.length=l.length:=by rw[<-hL];simp
 rw[hL] at hP hin ⊢;rw[Vi];delta Hb qG qB qC qI qY qP qZ iL iR Jn;refine aa (z:=aX L) rfl (aa (z:=L.map ag) rfl (aa (z:=0) (by rw[aF];exact aq (i:=0) (by omega)) (aa (vP (by omega)) ?_)))
 refine aa (Mw (n+1024) hu (hP _ (oW (by omega)))) ?_
 refine aa (z:=aX L) rfl (aa (z:=L.map ag) rfl (aa (z:=(L.map ag).drop 1) ?_ ?_))
 ·unfold D.cut;rw[if_pos ⟨by rw[aF];omega,zha _⟩,zzb (zha _)]
 have hd:((L.map ag).drop 1).length=l.length-1:=by rw[List.length_drop,aF,hk]
 refine cN (λi s=>s=[I (i:Int),af (yK u L i)]) (l.length-1) 0 (zoa _) rfl (λi hi s hj=>?_) (λs hj=>?_)
 ·subst hj;left;refine⟨_,?_,rfl⟩;have hm:=oW (L:=L) (i:=i+1) (by omega)
  refine aa ah (aa ab (aD (by rw[hd];omega) ?_))
  refine aa (z:=(0,[af (yK u L (i+1))])) ?_ (aa (aM (a:=i) (b:=1) (by omega)) rfl)
  refine aa (z:=i) (by rw[hd];exact aq hi) (aa (z:=ag (pt L (i+1))) (by rw[zeb,zjc];exact vP (by omega)) ?_)
  refine aa (Mw (n+1024) hu (hP _ hm)) (aa (Od (n+1026) (oC hu (hP _ hm)).2.2.2.2 (hin i (by omega))) ?_)
  refine aa (z:=.bool (decide (V.dot u (pt L (i+1))>yK u L i))) (by rw[<-AA];exact ca) (aa ab ?_)
  rw[xR];by_cases hc:V.dot u (pt L (i+1))>yK u L i
  ·rw[if_pos hc];exact aD hc rfl
  ·rw[if_neg hc];exact aH hc rfl
 ·subst hj;refine⟨_,aa ah (aa ab (aH (by rw[hd];omega) rfl)),?_⟩
  exact aa (z:=I (fk q)) rfl (aa (C3 (n+1028) hs.1) (aa (Mu n (hin _ (by omega)) (bR hs.1) hs.2) rfl))
def HI(n:Nat){u x:V}{q:Nat->Int}(hu:bd NB u)(h:PoseOk x q){l:List V}(hl:∀ v∈l,bd 4096 v)(h0:0<l.length)(hlen:l.length<=100):cA (n+8) 437 [ag u,cU x q,cF l]=some (fV (dh u x q l)):=by
 have hs:=vY h;have hP:=vO h hl;have hin:=vH hu hP;unfold dh;rw[Vj];delta Hc qG qB qC qX qL qZ iL iR Jn;refine aa (Tl (n+4) h hl hlen) ?_;obtain⟨L,hL⟩:∃ L,l.map (pL x q)=L:=⟨_,rfl⟩;have hk:L.length=l.length:=by rw[<-hL];simp
 rw[hL] at hP hin ⊢;refine aa (z:=L.map ag) rfl (aa (z:=0) (by rw[aF];exact aq (i:=0) (by omega)) (aa (vP (by omega)) ?_))
 refine aa (Mf (n+1) hu (hP _ (oW (by omega)))) ?_
 refine cN (λi s=>s=[I ((i+1:Nat):Int),af (yK u L i)]) (l.length-1) 0 (zoa _) rfl (λi hi s hj=>?_) (λs hj=>?_)
 ·subst hj;left;refine⟨_,?_,rfl⟩;have hm:=oW (L:=L) (i:=i+1) (by omega)
  refine aa (z:=L.map ag) rfl (aa ah (aa ab (aD (by rw[aF];omega) ?_)))
  refine aa (z:=(0,[af (yK u L (i+1))])) ?_ (aa (aM (a:=i+1) (b:=1) (by omega)) rfl)
  refine aa (z:=L.map ag) rfl (aa (z:=i+1) (by rw[aF];exact aq (by omega)) (aa (vP (by omega)) ?_))
  refine aa (Mf (n+1) hu (hP _ hm)) (aa (La (n+4) (oC hu (hP _ hm)).2.2.2.2 (hin i (by omega))) ?_)
  refine aa (z:=.bool (decide (V.dot u (pt L (i+1))>yK u L i))) (by rw[<-AA];exact ca) (aa ab ?_)
  rw[xR];by_cases hc:V.dot u (pt L (i+1))>yK u L i
  ·rw[if_pos hc];exact aD hc rfl
  ·rw[if_neg hc];exact aH hc rfl
 ·subst hj;refine⟨_,aa (z:=L.map ag) rfl (aa ah (aa ab (aH (by rw[aF];omega) rfl))),?_⟩
  exact aa (z:=gh q) rfl (aa (JT (n+5) h.hq) (aa (yI (n+4) hs.1) (aa (Mh (n+2) (hin _ (by omega)) (bR hs.1) hs.2) rfl)))
end Sy
end
noncomputable section
namespace Sy
open Go Go.Proofs Geo
def yA{x y:Int}(hy:0<y):(0<=x/\x/y=x.tdiv y/\x%y=x.tmod y/\0<=x.tmod y)\/(x<0/\x.tmod y=0/\x/y=x.tdiv y/\x%y=0)\/(x<0/\x.tmod y<0/\x/y=x.tdiv y-1/\x%y=x.tmod y+y):=by
 have e:=Int.mul_tdiv_add_tmod x y;have l:=Int.tmod_lt_of_pos x hy;have l2:=Int.lt_tmod_of_pos x hy;by_cases hx:0<=x
 ·have h0:=Int.tmod_nonneg y hx;have:=(Int.ediv_emod_unique (a:=x) (q:=x.tdiv y) (r:=x.tmod y) hy).2 ⟨by omega,h0,l⟩
  exact .inl ⟨hx,this.1,this.2,h0⟩
 ·have h0:x.tmod y<=0:=by
   have h1:=Int.tmod_nonneg y (show 0<=-x by omega)
   rw[Int.neg_tmod] at h1;omega
  by_cases hz:x.tmod y=0
  ·have:=(Int.ediv_emod_unique (a:=x) (q:=x.tdiv y) (r:=x.tmod y) hy).2 ⟨by omega,by omega,l⟩
   exact .inr (.inl ⟨by omega,hz,this.1,by rw[this.2,hz]⟩)
  ·have e2:y*(x.tdiv y-1)=y*x.tdiv y-y:=by rw[Int.mul_sub,Int.mul_one]
   have:=(Int.ediv_emod_unique (a:=x) (q:=x.tdiv y-1) (r:=x.tmod y+y) hy).2 ⟨by omega,by omega,by omega⟩
   exact .inr (.inr ⟨by omega,by omega,this.1,this.2⟩)
def rZ{x y:Int}(hy:0<y):(0<=x/\x/y=((x.natAbs/y.natAbs:Nat):Int)/\x%y=((x.natAbs%y.natAbs:Nat):Int))\/(x<0/\x.natAbs%y.natAbs=0/\x/y=-((x.natAbs/y.natAbs:Nat):Int)/\x%y=0) ∨
  (x<0/\0<x.natAbs%y.natAbs/\x/y=-((x.natAbs/y.natAbs:Nat):Int)-1/\x%y=((y.natAbs-x.natAbs%y.natAbs:Nat):Int)):=by
 have e:=zMb x.natAbs y.natAbs;have l:=zIa x.natAbs (show 0<y.natAbs by omega)
 have ey:(y.natAbs:Int)=y:=by omega
 have ez:y*((x.natAbs/y.natAbs:Nat):Int)+((x.natAbs%y.natAbs:Nat):Int)=(x.natAbs:Int):=by
  rw[<-e,zYc,z0a,ey,e]
 generalize x.natAbs/y.natAbs=Q at *;generalize x.natAbs%y.natAbs=R at *;by_cases hx:0<=x
 ·have:=(Int.ediv_emod_unique (a:=x) (q:=Q) (r:=R) hy).2 ⟨by omega,by omega,by omega⟩
  exact .inl ⟨hx,this⟩
 ·have e2:y*-(Q:Int)=-(y*Q):=Int.mul_neg ..;by_cases hz:R=0
  ·have:=(Int.ediv_emod_unique (a:=x) (q:=-Q) (r:=0) hy).2 ⟨by omega,by omega,by omega⟩
   exact .inr (.inl ⟨by omega,hz,this⟩)
  ·have e3:y*(-(Q:Int)-1)=-(y*Q)-y:=by rw[Int.mul_sub,Int.mul_one,e2]
   have:=(Int.ediv_emod_unique (a:=x) (q:=-Q-1) (r:=((y.natAbs-R:Nat):Int)) hy).2 ⟨by omega,by omega,by omega⟩
   exact .inr (.inr ⟨by omega,by omega,this⟩)
def uZ{x y:Int}(hy:In y)(h:0<y):In (x%y):=by
 have a:=Int.emod_nonneg x (show y≠0 by omega)
 have b:=Int.emod_lt_of_pos x h;unfold In at *;omega
def gd{x y:Int}(h:0<y):0<=x%y/\x%y<y:=⟨Int.emod_nonneg x (by omega),Int.emod_lt_of_pos x h⟩
def I3(n:Nat){a b:Int}(ha:Wd a)(hb:0<b):cA (n+1) 144 [I a,I b]=some (I (a/b)):=by
 rw[M8];delta Di qB qT Jn;have hq:(a/b).natAbs<=a.natAbs:=Int.natAbs_ediv_le_natAbs a b;have i1:inR (a/b):=by unfold Wd at ha;simp only[inR];omega
 have hbe:∀ a b:Int,D.beq (I a) (.int .i64 b)=decide (a=b):=λa b=>bw;rcases yA (x:=a) hb with⟨h0,h1,h2,h3⟩|⟨h0,h1,h2,h3⟩|⟨h0,h1,h2,h3⟩
 ·rw[h1] at i1 ⊢;refine aa (kl (by omega) i1) (aa (z:=(0,[I (a.tdiv b)])) (aa (jW (by omega)) ?_) rfl)
  refine aa ab (aa (z:=false) ?_ (aa ab rfl));rw[hbe];by_cases hz:a.tmod b=0
  ·rw[decide_eq_true hz];rfl
  ·rw[decide_eq_false hz];refine dY (aa ah (aa ah ?_));rw[decide_eq_false (by omega),decide_eq_false (by omega)];rfl
 ·rw[h2] at i1 ⊢;refine aa (kl (by omega) i1) (aa (z:=(0,[I (a.tdiv b)])) (aa (jW (by omega)) ?_) rfl)
  refine aa ab (aa (z:=false) ?_ (aa ab rfl));rw[hbe,decide_eq_true h1];rfl
 ·have i2:inR (a.tdiv b):=by unfold Wd at ha;simp only[inR] at *;omega
  refine aa (kl (by omega) i2) (aa (z:=(0,[I (a/b)])) (aa (jW (by omega)) ?_) rfl)
  refine aa ab (aa (z:=true) ?_ (aa ab ?_))
  ·rw[hbe,decide_eq_false (by omega)]
   refine dY (aa ah (aa ah ?_));rw[decide_eq_true (by omega),decide_eq_false (by omega)];rfl
  ·rw[if_pos rfl];rw[h2] at i1 ⊢;exact aa (bH i1) rfl
def Io{x y:Int}(hx:In x):(x/y).natAbs<65536^32:=zFa (Int.natAbs_ediv_le_natAbs x y) hx
def BJ(n:Nat){x y:Int}(hx:In x)(hy:In y)(hy0:0<y):cA (n+4) 87 [af x,af y]=some (af (x/y)):=by
 rw[Vt];delta KX qG qB qT qN qS Jn;by_cases hw:Wd x/\Wd y
 ·obtain⟨hx',hy'⟩:=hw;have hq:(x/y).natAbs<=x.natAbs:=Int.natAbs_ediv_le_natAbs x y;refine aa (mg n hx') (aa (z:=I x) rfl (aa (z:=.bool true) rfl (aa (mg n hy') (aa (z:=I y) rfl (aa (z:=.bool true) rfl (aa (z:=true) rfl (aa (z:=true) rfl (aa (z:=true) rfl (aa (z:=true) ?_ (aa (z:=true) rfl (dY ?_)))))))))))
  ·rw[if_pos rfl,show D.beq (I y) (D.int .i64 0)=decide (y=0) from bw,decide_eq_false (by omega)];rfl
  ·exact aa (I3 (n+2) hx' hy0) (aa (yI n (by unfold Wd at hx';simp only[inR];omega)) rfl)
 ·obtain⟨w1,b1,h1,k1⟩:=nT n hx;obtain⟨w2,b2,h2,k2⟩:=nT n hy;have hb:(b1&&b2)=false:=by
   cases b1<;>cases b2<;>first|rfl|exact absurd ⟨k1 rfl,k2 rfl⟩ hw
  have hx':x.natAbs<65536^32:=hx;have hy':y.natAbs<65536^32:=hy;have hl:=(cQ (B:=y.natAbs) (by omega)).1
  refine aa h1 (aa (z:=I w1) rfl (aa (z:=.bool b1) rfl (aa h2 (aa (z:=I w2) rfl (aa (z:=.bool b2) rfl (aa (z:=b1) rfl (aa (z:=false) (by cases b1<;>cases b2<;>simp at hb<;>rfl) (aa (z:=false) rfl (aa (z:=false) rfl (aa (z:=false) rfl ?_))))))))))
  rw[if_neg (by decide)]
  refine aa (lQ (n+1) hx) (aa aJ (aa (z:=false) rfl (aa (z:=false) (by rw[if_neg (by decide)];exact aa (lQ (n+1) hy) rfl) (aa (z:=false) rfl (aa (z:=false) ?_ (aa (z:=false) rfl ?_))))))
  ·rw[if_neg (by decide)]
   refine aa (qf (n+1) hy) (aa (z:=ae (ar y.natAbs)) rfl ?_);show D.truth (.bool (D.beq (I ((ae (ar y.natAbs)).length:Nat)) (I ((0:Nat):Int))))=_;rw[aj,ce,decide_eq_false (by omega)];rfl
  rw[if_neg (by decide)]
  have hqt:x.natAbs/y.natAbs<65536^32:=zFa (z6b _ _) hx';have h143:=HC n (xw hx') (B:=y.natAbs) (by omega) (xw hy')
  have hb':(!(D.beq (.bool (decide (x<0))) (.bool (decide (y<0)))))=decide (x<0):=by
   have h2:¬ y<0:=by omega
   by_cases h1:x<0<;>simp[h1,h2,D.beq]
  have hgt:∀ k:Nat,D.bin .gtr (.int .i64 ((ae (ar k)).length:Nat)) (.int .i64 0)=some (.bool (decide (0<k))):=λk=>by
   have:(ae (ar k)).length=(ar k).length:=aj _;refine ca.trans ?_;rw[this];by_cases hk:k=0
   ·subst hk;rw[bB];rfl
   ·have:=(cQ (B:=k) (by omega)).1
    rw[decide_eq_true (by omega),decide_eq_true (by omega)]
  have lq:=bc 32 _ hqt;have hfin:∀ Q:Nat,Q=(x/y).natAbs->sgn (decide (x<0)) Q=x/y->(ar Q).length<=1000000->cA (n+3) 81 [.bool (decide (x<0)),.sl (ae (ar Q))]=some (af (x/y)):=λQ hQ hs hle=>by
   have:=Fz (n+1) (neg:=decide (x<0)) (aP Q) hle (by rw[ai,hQ];exact Io hx)
   rwa [ai,hs] at this
  refine aa (qf (n+1) hx) (aa (qf (n+1) hy) (aa h143 (aa (z:=.sl (ae (ar (x.natAbs/y.natAbs)))) rfl (aa (z:=.sl (ae (ar (x.natAbs%y.natAbs)))) rfl ?_))));rcases rZ (x:=x) hy0 with⟨e0,e1,e2⟩|⟨e0,e1,e2,e3⟩|⟨e0,e1,e2,e3⟩
  ·refine aa (z:=(0,[.sl (ae (ar (x.natAbs/y.natAbs)))])) ?_ (aa (aB x) (aa (aB y) ?_))
   ·refine aa (aB x) (aa (aB y) ?_);rw[hb',decide_eq_false (by omega)]
    exact aa (z:=false) rfl (aa (z:=false) rfl (aa (z:=false) rfl rfl))
   ·rw[hb'];exact aa (hfin _ (by rw[e1,zza]) (by unfold sgn;rw[decide_eq_false (by omega)];simp[e1]) (by omega)) rfl
  ·refine aa (z:=(0,[.sl (ae (ar (x.natAbs/y.natAbs)))])) ?_ (aa (aB x) (aa (aB y) ?_))
   ·refine aa (aB x) (aa (aB y) ?_);rw[hb',decide_eq_true e0];refine aa (z:=true) rfl (aa (z:=false) ?_ (aa (z:=false) rfl rfl));rw[if_pos rfl,e1,bB];rfl
   ·rw[hb'];exact aa (hfin _ (by rw[e2,zec,zza]) (by unfold sgn;rw[decide_eq_true e0];simp[e2]) (by omega)) rfl
  ·refine aa (z:=(0,[.sl (ae (ar (x.natAbs/y.natAbs+1)))])) ?_ (aa (aB x) (aa (aB y) ?_))
   ·refine aa (aB x) (aa (aB y) ?_);rw[hb',decide_eq_true e0];refine aa (z:=true) rfl (aa (z:=true) ?_ (aa (z:=true) rfl ?_))
    ·rw[if_pos rfl];refine aa (z:=ae (ar (x.natAbs%y.natAbs))) rfl (aa (hgt _) ?_);rw[decide_eq_true e1];rfl
    ·rw[if_pos rfl];have:=Tr (n+1) (a:=ar (x.natAbs/y.natAbs)) (b:=[1]) (aP _) (by intro d hd;simp at hd;omega) (by omega) (by simp)
     rw[ai,show aV [1]=1 from rfl] at this;exact aa this rfl
   ·rw[hb'];have ll:=bc 33 (x.natAbs/y.natAbs+1) (by
                              have:(65536:Nat)^32<65536^33:=by decide
                              omega)
    exact aa (hfin _ (by rw[e2];generalize x.natAbs/y.natAbs=Q;omega) (by rw[e2];unfold sgn;rw[decide_eq_true e0];generalize x.natAbs/y.natAbs=Q;show -((Q+1:Nat):Int)=_;omega) (by omega)) rfl
end Sy
end
end Go.Proofs.YtphlmegkommlnaaGreatDoor
