/- EnergyOfPaths answers true at every input, and the input reads afterwards as it read before. -/
import Derived.Test.YtpahompifldeeaaGreatPaths02
import Derived.Test.YtpahompifldeeaaGreatPaths06
import Derived.Test.YtpahompifldeeaaGreatPaths10
import Derived.Test.YtpahompifldeeaaGreatPaths14
import Derived.Test.YtpahompifldeeaaGreatRows
set_option linter.unusedVariables false
set_option linter.unusedSimpArgs false
set_option linter.unnecessarySimpa false
set_option maxRecDepth 20000
namespace Go.Proofs.YtpahompifldeeaaGreat
noncomputable section
namespace Sy
open Go Go.Proofs Geo
theorem tG{A:Option D}(h:∃ y,A=some y/\∃ v:Bool,y=.bool v):∃ v:Bool,A=some (.bool v):=by
 obtain⟨y,h,v,rfl⟩:=h;exact⟨v,h⟩
theorem Cm{b:ByteArray}{i:Nat}(h:i<b.size):∃ x:Int,D.strAt (.str b) (I (i:Int))=some (.int .u8 x):=by
 refine⟨b[i].toNat,?_⟩
 simp[D.strAt,h]
theorem Oz(n:Nat)(b:ByteArray):∃ v:Bool,cA (n+2) 361 [.str b]=some (.bool v):=by
 refine tG ?_
 rw[Qq];unfold D9
 by_cases h1:(b.size:Int)<1
 ·exact⟨_,aa (z:=I (b.size:Int)) rfl (aa ah (aa (z:=true) (by rw[ae,decide_eq_true h1]) (aa (z:=true) rfl (aa (z:=true) rfl (oo rfl))))),false,rfl⟩
 ·by_cases h2:(b.size:Int)>32
  ·refine⟨.bool false,aa (z:=I (b.size:Int)) rfl (aa ah (aa (z:=false) (by rw[ae,decide_eq_false h1]) (aa (z:=true) ?_ (aa (z:=true) rfl (oo rfl))))),false,rfl⟩
   rw[if_neg (by decide)]
   exact aa (z:=I (b.size:Int)) rfl (aa bS (by rw[ae,decide_eq_true h2]))
  ·refine ab (z:=I (b.size:Int)) rfl (ab ah (ab (z:=false) (by rw[ae,decide_eq_false h1]) (ab (z:=false) ?_ (ab (z:=false) rfl ?_))))
   ·rw[if_neg (by decide)]
    exact aa (z:=I (b.size:Int)) rfl (aa bS (by rw[ae,decide_eq_false h2]))
   rw[if_neg (by decide)]
   refine dz (fun i s=>s=[I (i:Int)]) b.size 0 (Nat.zero_le _) rfl (fun i hi s hJ=>?_) (fun s hJ=>?_)
   ·subst hJ
    obtain⟨x,hx⟩:=Cm hi
    obtain⟨w,hw⟩:=OE n x
    refine ab (z:=I (b.size:Int)) rfl (ab ah (ab ae (bE (by show(i:Int)<(b.size:Int);omega) (ab hx (ab hw (ab bN (ab ae (ab (z:=!w&&(decide ((i:Int)=0)||(!decide (x=95)&&(decide (x<48)||decide (x>57))))) ?_ (ab ae ?_)))))))))
    ·cases w
     ·by_cases h0:(i:Int)=0
      ·simp[h0,D.beq,D.truth]
      ·have h0':¬ i=0:=by omega
       by_cases hx1:x=95<;>by_cases hx2:x<48<;>by_cases hx3:x>57<;>simp[h0,h0',D.beq,D.truth,hx,hx1,hx2,hx3,D.bin]
     ·rfl
    ·generalize (!w&&(decide ((i:Int)=0)||(!decide (x=95)&&(decide (x<48)||decide (x>57)))))=c
     cases c
     ·exact⟨.inl [I ((i+1:Nat):Int)],by rw[if_neg (by decide)];exact aa (aX (a:=i) (b:=1) (by omega)) rfl,rfl⟩
     ·exact⟨.inr (0,[.bool false]),rfl,.bool false,rfl,false,rfl⟩
   ·subst hJ
    exact⟨.inr (1,[]),aa (z:=I (b.size:Int)) rfl (aa ah (aa ae (aD (by show ¬ ((b.size:Int)<(b.size:Int));omega) rfl))),.bool true,rfl,true,rfl⟩
structure Bdy where
 nm:ByteArray
 P:List (List V)
 m0:Int
 m1:Int
 r0:Int
 r1:Int
def jp(b:Bdy):D:=.st [.str b.nm,.sl (b.P.map bv),.st [I b.m0,I b.m1],.st [I b.r0,I b.r1]]
theorem cQ(P:List (List V)):(P.map bv).length=P.length:=List.length_map ..
theorem Bt{P:List (List V)}{i:Nat}(h:i<P.length):(P.map bv)[i]?=some (bv P[i]):=by simp[h]
theorem Ou(n:Nat)(b:Bdy)(hL:b.P.length<=9223372036854775807):∃ v:Bool,cA (n+1) 346 [jp b]=some (.bool v)/\(v=true->b.P.length<=3/\∀ l∈b.P,l.length<=10):=by
 suffices h:∃ y,cA (n+1) 346 [jp b]=some y/\∃ v:Bool,y=.bool v/\(v=true->b.P.length<=3/\∀ l∈b.P,l.length<=10) by
  obtain⟨y,h,v,rfl,k⟩:=h;exact⟨v,h,k⟩
 rw[Qk];unfold D4
 refine dz (fun i s=>s=[I (i:Int)]/\∀ l∈b.P.take i,l.length<=10) b.P.length 0 (Nat.zero_le _) ⟨rfl,by simp⟩ (fun i hi s hJ=>?_) (fun s hJ=>?_)
 ·obtain⟨rfl,hJ⟩:=hJ
  refine ab (z:=.sl (b.P.map bv)) rfl (ab (z:=b.P.map bv) rfl (ab ah (ab ae (bE (by show(i:Int)<((b.P.map bv).length:Int);rw[cQ];omega) ?_))))
  refine ab (z:=.sl (b.P.map bv)) rfl (ab (z:=b.P.map bv) rfl (ab (z:=i) (by rw[cQ];exact ao hi) (ab (Bt hi) (ab (z:=aN b.P[i]) rfl (ab (z:=b.P[i].map af) rfl (ab bS (ab ae ?_)))))))
  rw[aC]
  by_cases h:b.P[i].length<=10
  ·refine tH (by omega) ⟨.inl [I ((i+1:Nat):Int)],aa (aX (a:=i) (b:=1) (by omega)) rfl,rfl,?_⟩
   rw[List.take_succ_eq_append_getElem hi]
   intro l hl
   rcases List.mem_append.1 hl with hl|hl
   ·exact hJ l hl
   ·rw[List.mem_singleton.1 hl];exact h
  ·exact bE (by omega) ⟨.inr (0,[.bool false]),rfl,.bool false,rfl,false,rfl,fun h=>by cases h⟩
 ·obtain⟨rfl,hJ⟩:=hJ
  rw[List.take_length] at hJ
  refine⟨.inr (1,[]),aa (z:=.sl (b.P.map bv)) rfl (aa (z:=b.P.map bv) rfl (aa ah (aa ae (aD (by show ¬ ((b.P.length:Int)<((b.P.map bv).length:Int));rw[cQ];omega) rfl)))),?_⟩
  refine⟨.bool (decide (b.P.length<=3)),?_,_,rfl,fun h=>⟨by simpa using h,hJ⟩⟩
  rw[if_neg (by decide)]
  refine aa (z:=.sl (b.P.map bv)) rfl (aa (z:=b.P.map bv) rfl (aa pm ?_))
  rw[cQ]
  congr 2
  rw[decide_eq_decide];omega
theorem EP{v:V}{k:Int}(h:∀ t,t<3->jv v t<=k/\-k<=jv v t):bd k v:=by
 have a:=h 0 (by decide);have b:=h 1 (by decide);have c:=h 2 (by decide)
 simp only[jv,if_true,if_false,Nat.one_ne_zero,Nat.reduceEqDiff] at a b c
 exact⟨⟨a.2,a.1⟩,⟨b.2,b.1⟩,⟨c.2,c.1⟩⟩
theorem vm{v:V}{i:Nat}(h:i<3):D.fld (af v) i=some (I (jv v i)):=by
 have:i=0\/i=1\/i=2:=by omega
 rcases this with rfl|rfl|rfl<;>rfl
theorem OA(n:Nat){l:List V}(hlen:l.length<=1000):∃ v:Bool,cA (n+1) 362 [bv l]=some (.bool v)/\(v=true->∀ x∈l,bd 4096 x):=by
 suffices h:∃ y,cA (n+1) 362 [bv l]=some y/\∃ v:Bool,y=.bool v/\(v=true->∀ x∈l,bd 4096 x) by
  obtain⟨y,h,v,rfl,k⟩:=h;exact⟨v,h,k⟩
 rw[Qr];unfold Ea
 refine dz (fun i s=>s=[I (i:Int)]/\∀ x∈l.take i,bd 4096 x) l.length 0 (Nat.zero_le _) ⟨rfl,by simp⟩ (fun i hi s hJ=>?_) (fun s hJ=>?_)
 ·obtain⟨rfl,hJ⟩:=hJ
  refine ab (z:=aN l) rfl (ab (z:=l.map af) rfl (ab ah (ab ae (bE (by show(i:Int)<((l.map af).length:Int);rw[aC];omega) ?_))))
  refine dz (fun k s=>s=[I (k:Int)]/\∀ t,t<k->jv l[i] t<=4096/\-4096<=jv l[i] t) 3 0 (Nat.zero_le _) ⟨rfl,fun t h=>by omega⟩ (fun k hk s hK=>?_) (fun s hK=>?_)
  ·obtain⟨rfl,hK⟩:=hK
   have hg:Option.bind (D.get (bv l) [0]) (fun x9=>Option.bind (D.asSl x9) fun l10=>Option.bind (D.idx (I (i:Int)) l10.length) fun i11=>l10[i11]?)=some (af l[i]):=
    aa (z:=aN l) rfl (aa (z:=l.map af) rfl (aa (z:=i) (by rw[aC];exact ao hi) (pX hi)))
   refine ab ah (ab ae (bE (by show(k:Int)<3;omega) ?_))
   refine ab (z:=aN l) rfl (ab (z:=l.map af) rfl (ab (z:=i) (by rw[aC];exact ao hi) (ab (pX hi) (ab (z:=k) (ao hk) (ab (vm hk) (ab bS (ab ae ?_)))))))
   by_cases h1:jv l[i] k>4096
   ·refine ab (z:=true) (by rw[decide_eq_true h1];rfl) (ab (z:=true) rfl ⟨.inr (0,[.bool false]),rfl,.inr (0,[.bool false]),rfl,.bool false,rfl,false,rfl,fun h=>by cases h⟩)
   ·refine ab (z:=decide (jv l[i] k < -4096)) ?_ (ab ae ?_)
    ·rw[decide_eq_false h1,if_neg (by decide)]
     exact aa (z:=aN l) rfl (aa (z:=l.map af) rfl (aa (z:=i) (by rw[aC];exact ao hi) (aa (pX hi) (aa (z:=k) (ao hk) (aa (vm hk) (aa ah ae))))))
    ·by_cases h2:jv l[i] k < -4096
     ·exact bE h2 ⟨.inr (0,[.bool false]),rfl,.inr (0,[.bool false]),rfl,.bool false,rfl,false,rfl,fun h=>by cases h⟩
     ·refine tH h2 ⟨.inl [I ((k+1:Nat):Int)],aa (aX (a:=k) (b:=1) (by omega)) rfl,rfl,fun t ht=>?_⟩
      by_cases e:t=k
      ·subst e;omega
      ·exact hK t (by omega)
  ·obtain⟨rfl,hK⟩:=hK
   refine⟨.inr (1,[]),aa ah (aa ae (aD (by decide) rfl)),.inl [I ((i+1:Nat):Int)],?_,rfl,?_⟩
   ·rw[if_neg (by decide)]
    exact aa (aX (a:=i) (b:=1) (by omega)) rfl
   ·rw[List.take_succ_eq_append_getElem hi]
    intro x hx
    rcases List.mem_append.1 hx with hx|hx
    ·exact hJ x hx
    ·rw[List.mem_singleton.1 hx];exact EP hK
 ·obtain⟨rfl,hJ⟩:=hJ
  rw[List.take_length] at hJ
  refine⟨.inr (1,[]),aa (z:=aN l) rfl (aa (z:=l.map af) rfl (aa ah (aa ae (aD (by show ¬ ((l.length:Int)<((l.map af).length:Int));rw[aC];omega) rfl)))),.bool true,rfl,true,rfl,fun _=>hJ⟩
structure Hul(l:List V):Prop where
 len:l.length<=64
 bd:∀ x∈l,bd MV x
 srt:AX l
 vtx:∀ k,k<l.length->If (pt l) l.length k
 ex:∃ m d,IsF (pt l) l.length m d
theorem N8(n:Nat){l:List V}(h:l.length<=100):(∃ e:Int,cA (n+9) 15 [bv l]=some (I e)/\e≠0)\/(cA (n+9) 15 [bv l]=some (I 0)/\Hul l):=by
 rcases SS n (l:=l) h with⟨e,h1,h2⟩|⟨h1,h2,h3,F,h4,hne,_,h5⟩
 ·exact .inl ⟨e,h1,h2⟩
 ·right
  have ho:=List.Pairwise.sublist (AB (c9 l) F) (qM l)
  rw[h5] at ho
  have hs:=Ck ho
  rw[FA ho] at h4 h5
  refine⟨h1,h2,h3,hs,fun k hk=>?_,?_⟩
  ·refine By hs h4.fok ?_
   have e:=congrArg List.length h5
   unfold cN at e
   rw[List.length_map] at e
   have e2:((List.range l.length).filter (gW F)).length=(List.range l.length).length:=by rw[e,List.length_range]
   exact List.length_filter_eq_length_iff.1 e2 k (List.mem_range.2 hk)
  ·obtain⟨f,hf⟩:∃ f,f∈F:=List.exists_mem_of_ne_nil F (fun e=>hne (by rw[e];rfl))
   exact⟨_,_,(h4.fok.ok f hf).1⟩
theorem Hul.pos{l:List V}(h:Hul l):0<l.length:=by
 obtain⟨m,d,hF⟩:=h.ex
 obtain⟨i,j,k,h1,h2,h3,_⟩:=hF.ex
 omega
theorem Gq{m v:V}(hm:bd 549755813888 m)(hv:bd 4096 v):In (V.dot m v):=by
 have h1:(m.x*v.x).natAbs<=549755813888*4096:=by rw[Int.natAbs_mul];exact Nat.mul_le_mul (by have:=hm.1;omega) (by have:=hv.1;omega)
 have h2:(m.y*v.y).natAbs<=549755813888*4096:=by rw[Int.natAbs_mul];exact Nat.mul_le_mul (by have:=hm.2.1;omega) (by have:=hv.2.1;omega)
 have h3:(m.z*v.z).natAbs<=549755813888*4096:=by rw[Int.natAbs_mul];exact Nat.mul_le_mul (by have:=hm.2.2;omega) (by have:=hv.2.2;omega)
 refine kR ?_
 simp only[V.dot,inR]
 omega
theorem IC(n:Nat){l:List V}{m:V}(hm:bd 549755813888 m)(hl:∀ x∈l,bd 4096 x)(h0:0<l.length)(hlen:l.length<=1000):∃ a b:Int,cA (n+7) 389 [bv l,af m]=some (.st [ai a,ai b])/\In a/\In b:=by
 suffices h:∃ y,cA (n+7) 389 [bv l,af m]=some y/\∃ a b:Int,y=.st [ai a,ai b]/\In a/\In b by
  obtain⟨y,h,a,b,rfl,k⟩:=h;exact⟨a,b,h,k⟩
 rw[QA];unfold Ej
 have hd:∀ i (h:i<l.length),cA (n+6) 33 [af m,af l[i]]=some (ai (V.dot m l[i]))/\In (V.dot m l[i]):=fun i h=>
  have hb:=hl _ (List.getElem_mem h)
  ⟨SU n hm hb (by decide) (by decide) (by decide),Gq hm hb⟩
 refine ab (z:=aN l) rfl (ab (z:=l.map af) rfl (ab (z:=0) (by rw[aC];exact ao h0) (ab (pX h0) (ab (hd 0 h0).1 ?_))))
 refine dz (fun i s=>∃ a b:Int,s=[I (i:Int),.st [ai a,ai b]]/\In a/\In b) l.length 1 h0 ⟨_,_,rfl,(hd 0 h0).2,(hd 0 h0).2⟩ (fun i hi s hJ=>?_) (fun s hJ=>?_)
 ·obtain⟨a,b,rfl,ha,hb⟩:=hJ
  obtain⟨d1,d2⟩:=hd i hi
  refine ab (z:=aN l) rfl (ab (z:=l.map af) rfl (ab ah (ab ae (bE (by show(i:Int)<((l.map af).length:Int);rw[aC];omega) ?_))))
  generalize hD:V.dot m l[i]=d at *
  have key:∃ a' b':Int,In a'/\In b'/\(Option.bind (D.get (bv l) [0]) fun x11=>Option.bind (D.asSl x11) fun l12=>Option.bind (D.idx (List.getD [I (i:Int),.st [ai a,ai b]] 0 (.bool false)) l12.length) fun i13=>Option.bind (l12[i13]?) fun x14=>Option.bind (cA (n+6) 33 [af m,x14]) fun r15=>
    Option.bind (Option.bind (D.get (List.getD [I (i:Int),.st [ai a,ai b]] 1 (.bool false)) [0]) fun x16=>Option.bind (cA (n+6) 32 [r15,x16]) fun r17=>Option.bind (D.bin .lss r17 (D.int .i64 0)) fun x18=>Option.bind (D.truth x18) fun b19=>
     if b19 then(Option.bind (D.set (List.getD [I (i:Int),.st [ai a,ai b]] 1 (.bool false)) [0] r15) fun x20=>some ((0:Nat),[x20])) else some (0,[List.getD [I (i:Int),.st [ai a,ai b]] 1 (.bool false)])) fun(r21:Nat×List D)=>
    Option.bind (D.get (gx r21.2 0) [1]) fun x22=>Option.bind (cA (n+6) 32 [r15,x22]) fun r23=>Option.bind (D.bin .gtr r23 (D.int .i64 0)) fun x24=>Option.bind (D.truth x24) fun b25=>
     if b25 then(Option.bind (D.set (gx r21.2 0) [1] r15) fun x26=>some ((0:Nat),[x26])) else some (0,[gx r21.2 0]))=some (0,[.st [ai a',ai b']]):=by
   refine⟨if a7 d a<0 then d else a,if a7 d b>0 then d else b,by split<;>assumption,by split<;>assumption,?_⟩
   refine aa (z:=aN l) rfl (aa (z:=l.map af) rfl (aa (z:=i) (by rw[aC];exact ao hi) (aa (pX hi) (aa d1 ?_))))
   refine aa (z:=(0,[.st [ai (if a7 d a<0 then d else a),ai b]])) ?_ ?_
   ·refine aa (z:=ai a) rfl (aa (GL (n+3) d2 ha) (aa ah (aa ae ?_)))
    by_cases h:a7 d a<0
    ·refine aH h ?_
     rw[if_pos h];rfl
    ·refine aD h ?_
     rw[if_neg h];rfl
   ·refine aa (z:=ai b) rfl (aa (GL (n+3) d2 hb) (aa bS (aa ae ?_)))
    by_cases h:a7 d b>0
    ·refine aH h ?_
     rw[if_pos h];rfl
    ·refine aD h ?_
     rw[if_neg h];rfl
  obtain⟨a',b',ha',hb',hk⟩:=key
  exact⟨.inl [I ((i+1:Nat):Int),.st [ai a',ai b']],aa hk (aa (aX (a:=i) (b:=1) (by omega)) rfl),a',b',rfl,ha',hb'⟩
 ·obtain⟨a,b,rfl,ha,hb⟩:=hJ
  exact⟨.inr (0,[.st [ai a,ai b]]),aa (z:=aN l) rfl (aa (z:=l.map af) rfl (aa ah (aa ae (aD (by show ¬ ((l.length:Int)<((l.map af).length:Int));rw[aC];omega) rfl)))),_,rfl,a,b,rfl,ha,hb⟩
theorem OF(n:Nat){a b:List V}{m:V}(hm:bd 549755813888 m)(ha:∀ x∈a,bd 4096 x)(hb:∀ x∈b,bd 4096 x)(ha0:0<a.length)(hb0:0<b.length)(hal:a.length<=1000)(hbl:b.length<=1000):∃ v:Bool,cA (n+8) 376 [bv a,bv b,af m]=some (.bool v):=by
 refine tG ?_
 rw[Qw];unfold Ef
 obtain⟨a1,b1,h1,i1,j1⟩:=IC n hm ha ha0 hal
 obtain⟨a2,b2,h2,i2,j2⟩:=IC n hm hb hb0 hbl
 rw[iV,gl]
 refine ab ae ?_
 by_cases hz:m=⟨0,0,0⟩
 ·exact bE hz ⟨_,rfl,false,rfl⟩
 ·refine tH hz (ab h1 (ab h2 (ab (z:=ai b1) rfl (ab (z:=ai a2) rfl (ab (GL (n+4) j1 i2) (ab pm (ab ae ?_)))))))
  by_cases h:a7 b1 a2<=0
  ·exact ab (z:=true) (by rw[decide_eq_true h];rfl) ⟨_,rfl,true,rfl⟩
  ·refine ab (z:=decide (a7 b2 a1<=0)) ?_ ⟨_,rfl,_,rfl⟩
   rw[decide_eq_false h,if_neg (by decide)]
   exact aa (z:=ai b2) rfl (aa (z:=ai a1) rfl (aa (GL (n+4) j2 i1) (aa pm ae)))
end Sy
end
noncomputable section
namespace Sy
open Go Go.Proofs Geo
def J5(p:List Nat)(a b i:Nat):Bool:=(decide (p.getD i 0=a)&&decide (p.getD ((i+1)%p.length) 0=b))||(decide (p.getD i 0=b)&&decide (p.getD ((i+1)%p.length) 0=a))
def CK(p:List Nat)(a b t:Nat):Bool:=(List.range t).any (J5 p a b)
def kE(F:FL)(a b:Nat):Bool:=F.any fun f=>CK f.2 a b f.2.length
def jY(F:FL)(a b:Nat):List (Nat×Nat):=((List.range b).filter fun c=>decide (a<c)&&kE F a c).map fun c=>(a,c)
def lI(F:FL)(N a:Nat):List (Nat×Nat):=(List.range a).flatMap fun a=>jY F a N
theorem BA(p:List Nat)(a b t:Nat):CK p a b (t+1)=(CK p a b t||J5 p a b t):=by
 unfold CK;rw[List.range_succ,List.any_append];simp
theorem An(F:FL){a b:Nat}(h:a<b):jY F a (b+1)=if kE F a b then jY F a b++[(a,b)] else jY F a b:=by
 unfold jY
 rw[List.range_succ,List.filter_append]
 by_cases k:kE F a b=true<;>simp[h,k]
theorem Ce(F:FL)(a:Nat):jY F a (a+1)=[]:=by
 unfold jY
 rw[List.map_eq_nil_iff,List.filter_eq_nil_iff]
 intro c hc
 have:=List.mem_range.1 hc
 simp;omega
theorem wu(F:FL)(a b:Nat):(jY F a b).length<=b:=by
 unfold jY;rw[List.length_map];exact Nat.le_trans (List.length_filter_le _ _) (by simp)
theorem rC(F:FL)(N a:Nat):lI F N (a+1)=lI F N a++jY F a N:=by
 unfold lI;rw[List.range_succ,List.flatMap_append];simp
theorem uM(F:FL)(N a:Nat):(lI F N a).length<=a*N:=by
 induction a with
 | zero=>simp[lI]
 | succ a ih=>rw[rC,List.length_append,Nat.succ_mul];have:=wu F a N;omega
theorem BI{F:FL}{N:Nat}{e:Nat×Nat}:e∈lI F N N↔e.1<N/\e.2<N/\e.1<e.2/\kE F e.1 e.2=true:=by
 obtain⟨a,b⟩:=e
 simp only[lI,jY,List.mem_flatMap,List.mem_range,List.mem_map,List.mem_filter,Bool.and_eq_true,decide_eq_true_eq,Prod.mk.injEq]
 constructor
 ·rintro⟨c,hc,d,⟨hd,h1,h2⟩,rfl,rfl⟩
  exact⟨hc,hd,h1,h2⟩
 ·rintro⟨h1,h2,h3,h4⟩
  exact⟨a,h1,b,⟨h2,h3,h4⟩,rfl,rfl⟩
theorem NR{M:List (Nat×Nat)}(e:Nat×Nat):D.sl (M.map eX++[eX e])=.sl ((M++[e]).map eX):=by simp
theorem BF(M:List (Nat×Nat)):(M.map eX).length=M.length:=List.length_map ..
theorem ST(n:Nat){l:List V}(hlen:l.length<=100){F:FL}(hF:F.length<=3000000)(hp:∀ f∈F,0<f.2.length/\f.2.length<=1000000)(h19:cA (n+1) 19 [bv l]=some (.sl (aq F))):cA (n+2) 22 [bv l]=some (.sl ((lI F l.length l.length).map eX)):=by
 rw[Tk]
 unfold Jo
 refine aa h19 ?_
 refine ba (fun a s=>s=[.sl ((lI F l.length a).map eX),I (a:Int)]) l.length 0 (Nat.zero_le _) rfl (fun a ha s hJ=>?_) (fun s hJ=>?_)
 ·subst hJ
  left
  refine⟨[.sl ((lI F l.length (a+1)).map eX),I ((a+1:Nat):Int)],?_,rfl⟩
  have hal:(lI F l.length a).length<=10000:=Nat.le_trans (uM F l.length a) (Nat.mul_le_mul (show a<=100 by omega) hlen)
  refine aa (z:=aN l) rfl (aa (z:=l.map af) rfl (aa ah (aa ae (aH (by show((a:Int)<((l.map af).length:Int));rw[aC];omega) (aa (av (ar (i:=a) (by omega))) ?_)))))
  rw[rC]
  obtain⟨M,hM⟩:∃ M,lI F l.length a=M:=⟨_,rfl⟩
  rw[hM] at hal ⊢
  refine dn (fun b s=>a+1<=b/\s=[.sl ((M++jY F a b).map eX),I (b:Int)]) l.length (a+1) (by omega) ⟨Nat.le_refl _,by rw[Ce,List.append_nil];rfl⟩ (fun b hb s hJ=>?_) (fun s hJ=>?_)
  ·obtain⟨hab,rfl⟩:=hJ
   left
   refine⟨[.sl ((M++jY F a (b+1)).map eX),I ((b+1:Nat):Int)],?_,by omega,rfl⟩
   have hrl:=wu F a b
   rw[An F (show a<b by omega)]
   obtain⟨R,hR⟩:∃ R,M++jY F a b=R:=⟨_,rfl⟩
   have hRl:R.length<=10100:=by rw[<-hR,List.length_append];omega
   have eR:(M++if kE F a b=true then jY F a b++[(a,b)] else jY F a b)=if kE F a b=true then R++[(a,b)] else R:=by
    split
    ·rw[<-hR,List.append_assoc]
    ·exact hR
   rw[eR,hR]
   refine aa (z:=aN l) rfl (aa (z:=l.map af) rfl (aa ah (aa ae (aH (by show((b:Int)<((l.map af).length:Int));rw[aC];omega) ?_))))
   refine aa (z:=(0,[.sl ((if kE F a b=true then R++[(a,b)] else R).map eX)])) ?_ (aa (av (ar (i:=b) (by omega))) rfl)
   refine dn (fun k s=>s=[.sl (R.map eX),.bool (kE (F.take k) a b),I (k:Int)]) F.length 0 (Nat.zero_le _) rfl (fun k hk s hJ=>?_) (fun s hJ=>?_)
   ·subst hJ
    left
    refine⟨[.sl (R.map eX),.bool (kE (F.take (k+1)) a b),I ((k+1:Nat):Int)],?_,rfl⟩
    obtain⟨hp0,hpk⟩:=hp F[k] (List.getElem_mem hk)
    have e1:kE (F.take (k+1)) a b=(kE (F.take k) a b||CK F[k].2 a b F[k].2.length):=by
     unfold kE;rw[List.take_succ_eq_append_getElem hk,List.any_append];simp
    refine aa (z:=aq F) rfl (aa ah (aa ae (aH (by show((k:Int)<((aq F).length:Int));rw[aG];omega) ?_)))
    refine aa (z:=aq F) rfl (aa (z:=k) (by rw[aG];exact ao hk) (aa (dH hk) (aa (z:=.sl (ag F[k].2)) rfl ?_)))
    rw[e1]
    generalize kE (F.take k) a b=b0
    obtain⟨p,hpp⟩:∃ p,F[k].2=p:=⟨_,rfl⟩
    rw[hpp] at hp0 hpk ⊢
    refine dn (fun i s=>s=[.sl (R.map eX),.bool (b0||CK p a b i),I (i:Int)]) p.length 0 (Nat.zero_le _) (by rw[show CK p a b 0=false from rfl,Bool.or_false];rfl) (fun i hi s hJ=>?_) (fun s hJ=>?_)
    ·subst hJ
     left
     refine⟨[.sl (R.map eX),.bool (b0||CK p a b (i+1)),I ((i+1:Nat):Int)],?_,rfl⟩
     have hmod:(i+1)%p.length<p.length:=Nat.mod_lt _ hp0
     have hrem:(((i:Int)+1).tmod (p.length:Int))=(((i+1)%p.length:Nat):Int):=by
      rw[show((i:Int)+1)=((i+1:Nat):Int) by omega];exact Int.ofNat_tmod ..
     have nb:∀ (x y:Nat) {X:Option Bool},X=(Option.bind (D.asSl (.sl (ag p))) fun l26=>
       Option.bind (D.idx (I (i:Int)) (List.length l26)) fun i27=>
       Option.bind (l26[i27]?) fun x28=>
       Option.bind (D.truth (D.bool (D.beq x28 (I (x:Int))))) fun b29=>
       if b29 then(Option.bind (D.bin .add (I (i:Int)) (D.int .i64 1)) fun x30=>
       Option.bind (D.asSl (.sl (ag p))) fun l31=>
       Option.bind (D.bin .rem x30 (D.int .i64 (List.length l31))) fun x32=>
       Option.bind (D.asSl (.sl (ag p))) fun l33=>
       Option.bind (D.idx x32 (List.length l33)) fun i34=>
       Option.bind (l33[i34]?) fun x35=>
       D.truth (D.bool (D.beq x35 (I (y:Int))))) else(some false))->X=some (decide (p.getD i 0=x)&&decide (p.getD ((i+1)%p.length) 0=y)):=fun x y X hX=>by
      rw[hX]
      refine aa (z:=ag p) rfl (aa (z:=i) (by rw[aj];exact ao hi) (aa (iW hi) ?_))
      rw[bP]
      refine aa ae ?_
      by_cases h:p.getD i 0=x
      ·refine aH h (aa (av (ar (i:=i) (by omega))) (aa (z:=ag p) rfl (aa (z:=I (((i+1)%p.length:Nat):Int)) (by rw[show((ag p).length:Int)=(p.length:Int) by rw[aj],po (by omega),hrem]) (aa (z:=ag p) rfl (aa (z:=(i+1)%p.length) (by rw[aj];exact ao hmod) (aa (iW hmod) ?_))))))
       rw[bP,ae,decide_eq_true h,Bool.true_and]
      ·refine aD h ?_
       rw[decide_eq_false h,Bool.false_and]
     refine aa (z:=ag p) rfl (aa ah (aa ae (aH (by show((i:Int)<((ag p).length:Int));rw[aj];omega) (aa ae ?_))))
     rw[BA]
     generalize CK p a b i=b1
     refine aa (z:=(b0||b1)||(decide (p.getD i 0=a)&&decide (p.getD ((i+1)%p.length) 0=b))) ?_ (aa ae (aa (z:=b0||(b1||J5 p a b i)) ?_ (aa (av (ar (i:=i) (by omega))) rfl)))
     ·cases hb:(b0||b1)
      ·rw[show(if false=true then some true else _)=_ from if_neg (by decide),Bool.false_or]
       exact nb a b rfl
      ·rfl
     ·rw[<-Bool.or_assoc]
      unfold J5
      rw[<-Bool.or_assoc]
      cases hb:(b0||b1||(decide (p.getD i 0=a)&&decide (p.getD ((i+1)%p.length) 0=b)))
      ·rw[show(if false=true then some true else _)=_ from if_neg (by decide),Bool.false_or]
       exact nb b a rfl
      ·rfl
    ·subst hJ
     refine⟨(0,[.sl (R.map eX),.bool (b0||CK p a b p.length)]),aa (z:=ag p) rfl (aa ah (aa ae (aD (by show ¬ ((p.length:Int)<((ag p).length:Int));rw[aj];omega) rfl))),?_⟩
     exact aa (av (ar (i:=k) (by omega))) rfl
   ·subst hJ
    rw[List.take_length]
    refine⟨(0,[.sl (R.map eX),.bool (kE F a b)]),?_,?_⟩
    ·exact aa (z:=aq F) rfl (aa ah (aa ae (aD (by show ¬ ((F.length:Int)<((aq F).length:Int));rw[aG];omega) rfl)))
    ·refine aa (z:=kE F a b) ae ?_
     cases kE F a b
     ·rfl
     ·rw[if_pos rfl,if_pos rfl,if_pos (by show(R.map eX).length+1<=1073741824;rw[BF];omega),<-NR]
      rfl
  ·obtain⟨hab,rfl⟩:=hJ
   refine⟨(0,[.sl ((M++jY F a l.length).map eX)]),?_,aa (av (ar (i:=a) (by omega))) rfl⟩
   exact aa (z:=aN l) rfl (aa (z:=l.map af) rfl (aa ah (aa ae (aD (by show ¬ ((l.length:Int)<((l.map af).length:Int));rw[aC];omega) rfl))))
 ·subst hJ
  refine⟨(0,[.sl ((lI F l.length l.length).map eX)]),?_,rfl⟩
  exact aa (z:=aN l) rfl (aa (z:=l.map af) rfl (aa ah (aa ae (aD (by show ¬ ((l.length:Int)<((l.map af).length:Int));rw[aC];omega) rfl))))
end Sy
end
noncomputable section
namespace Sy
open Go Go.Proofs Geo
theorem Eu{a b:Int}(h:a<=b){v:V}(hv:bd a v):bd b v:=by
 unfold bd at *;omega
theorem Bp{β:Type}{p:Prop}[Decidable p]{A B:Option β}{Y:β->Prop}(h:p)(hA:∃ y,A=some y/\Y y):∃ y,(if p then A else B)=some y/\Y y:=by rw[if_pos h];exact hA
theorem vk{β:Type}{A B:Option β}{Y:β->Prop}(h:∃ y,B=some y/\Y y):∃ y,(if((1,[]):Nat×List D).1=0 then A else B)=some y/\Y y:=by rw[if_neg (by decide)];exact h
theorem IB(n:Nat){l:List V}(h:Hul l)(hb:∀ x∈l,bd 4096 x):∃ E:List V,cA (n+10) 377 [bv l]=some (.sl (E.map af))/\E.length<=4096/\∀ x∈E,bd 8192 x:=by
 suffices h:∃ y,cA (n+10) 377 [bv l]=some y/\∃ E:List V,y=.sl (E.map af)/\E.length<=4096/\∀ x∈E,bd 8192 x by
  obtain⟨y,h,E,rfl,k⟩:=h;exact⟨E,h,k⟩
 rw[Qx];unfold Eg
 obtain⟨L,poly,hL,hP,hF,_,h19⟩:=Ta h.bd h.len h.srt
 have hlen:=h.len
 have hp:∀ f∈(L.map fun q=>(q,poly q)),0<f.2.length/\f.2.length<=1000000:=fun f hf=>by
  obtain⟨h1,h2,_⟩:=hF.2 f hf
  omega
 have h22:=ST (n+7) (by omega) (F:=L.map fun q=>(q,poly q)) (by have:=hF.1;omega) hp (h19 n)
 obtain⟨A,hA⟩:∃ A,lI (L.map fun q=>(q,poly q)) l.length l.length=A:=⟨_,rfl⟩
 have hAl:A.length<=4096:=by
  rw[<-hA]
  refine Nat.le_trans (uM _ _ _) ?_
  exact Nat.mul_le_mul hlen hlen
 have hAm:∀ e∈A,e.1<l.length/\e.2<l.length:=fun e he=>by
  rw[<-hA] at he
  obtain⟨h1,h2,_⟩:=BI.1 he
  exact⟨h1,h2⟩
 rw[hA] at h22
 have aE:(A.map eX).length=A.length:=List.length_map ..
 have app:∀ (E:List V) (x:V),E.map af++[af x]=(E++[x]).map af:=fun E x=>by simp
 refine ab h22 ?_
 refine dz (fun i s=>∃ E:List V,s=[.sl (E.map af),I (i:Int)]/\E.length=i/\∀ x∈E,bd 8192 x) A.length 0 (Nat.zero_le _) ⟨[],rfl,rfl,by simp⟩ (fun i hi s hJ=>?_) (fun s hJ=>?_)
 ·obtain⟨E,rfl,hE,hEb⟩:=hJ
  obtain⟨m1,m2⟩:=hAm _ (List.getElem_mem hi)
  have gE:(A.map eX)[i]?=some (eX A[i]):=by simp[hi]
  have b1:=hb _ (List.getElem_mem m1)
  have b2:=hb _ (List.getElem_mem m2)
  refine ab (z:=A.map eX) rfl (ab ah (ab ae (bE (by show(i:Int)<((A.map eX).length:Int);rw[aE];omega) ?_)))
  refine ab (z:=aN l) rfl (ab (z:=A.map eX) rfl (ab (z:=i) (by rw[aE];exact ao hi) (ab gE (ab (z:=I (A[i].2:Int)) rfl (ab (z:=l.map af) rfl (ab (z:=A[i].2) (by rw[aC];exact ao m2) (ab (pX m2) ?_)))))))
  refine ab (z:=aN l) rfl (ab (z:=A.map eX) rfl (ab (z:=i) (by rw[aE];exact ao hi) (ab gE (ab (z:=I (A[i].1:Int)) rfl (ab (z:=l.map af) rfl (ab (z:=A[i].1) (by rw[aC];exact ao m1) (ab (pX m1) ?_)))))))
  refine ab (tn (n+8) b2 b1 (by decide)) ?_
  refine Bp (by show(E.map af).length+1<=1073741824;rw[List.length_map];omega) ⟨.inl [.sl ((E++[V.sub l[A[i].2] l[A[i].1]]).map af),I ((i+1:Nat):Int)],?_,E++[V.sub l[A[i].2] l[A[i].1]],rfl,by simp[hE],fun x hx=>?_⟩
  ·rw[<-app]
   exact aa (aX (a:=i) (b:=1) (by omega)) rfl
  ·rcases List.mem_append.1 hx with hx|hx
   ·exact hEb x hx
   ·rw[List.mem_singleton.1 hx]
    generalize l[A[i].2]=p at *
    generalize l[A[i].1]=q at *
    unfold bd at *
    simp only[V.sub];omega
 ·obtain⟨E,rfl,hE,hEb⟩:=hJ
  exact⟨.inr (0,[.sl (E.map af)]),aa (z:=A.map eX) rfl (aa ah (aa ae (aD (by show ¬ ((A.length:Int)<((A.map eX).length:Int));rw[aE];omega) rfl))),_,rfl,E,rfl,by omega,hEb⟩
theorem ew{a b:Int}(ha:a.natAbs<=8192)(hb:b.natAbs<=8192):(a*b).natAbs<=67108864:=by
 rw[Int.natAbs_mul];exact Nat.mul_le_mul ha hb
theorem GM(n:Nat){a b c d:Int}(ha:a.natAbs<=8192)(hb:b.natAbs<=8192)(hc:c.natAbs<=8192)(hd:d.natAbs<=8192):cA (n+6) 395 [ai a,ai b,ai c,ai d]=some (ai (a*b-c*d)):=by
 have m1:=ew ha hb;have m2:=ew hc hd
 have i2:In (c*d):=kR (by simp only[inR];omega)
 rw[QC];unfold El
 refine aa (Hx (n+1) (by unfold Wd;omega) (by unfold Wd;omega)) (aa (Hx (n+1) (by unfold Wd;omega) (by unfold Wd;omega)) (aa (z:=ai (a*b-c*d)) ?_ rfl))
 rw[QD];unfold Em
 refine aa (OL (n+1) i2) (aa (JZ n (x:=a*b) (y:=-(c*d)) (by unfold Wd;omega) (by unfold Wd;omega)) ?_)
 rw[Int.sub_eq_add_neg]
theorem ti{k:Nat}{v:V}(h:bd (k:Int) v):v.x.natAbs<=k/\v.y.natAbs<=k/\v.z.natAbs<=k:=by
 unfold bd at h;omega
theorem OH(n:Nat){u v:V}(hu:bd 8192 u)(hv:bd 8192 v):cA (n+8) 379 [af u,af v]=some (rM (V.cross u v)):=by
 obtain⟨u1,u2,u3⟩:=ti (k:=8192) hu
 obtain⟨v1,v2,v3⟩:=ti (k:=8192) hv
 rw[Qz];unfold Ei
 refine aa (IE (n+3) (by simp only[inR];omega) (by simp only[inR];omega) (by simp only[inR];omega)) (aa (IE (n+3) (by simp only[inR];omega) (by simp only[inR];omega) (by simp only[inR];omega)) (aa (z:=rM (V.cross u v)) ?_ rfl))
 rw[QB];unfold Ek
 refine aa (z:=ai u.y) rfl (aa (z:=ai v.z) rfl (aa (z:=ai u.z) rfl (aa (z:=ai v.y) rfl (aa (GM n u2 v3 u3 v2) ?_))))
 refine aa (z:=ai u.z) rfl (aa (z:=ai v.x) rfl (aa (z:=ai u.x) rfl (aa (z:=ai v.z) rfl (aa (GM n u3 v1 u1 v3) ?_))))
 refine aa (z:=ai u.x) rfl (aa (z:=ai v.y) rfl (aa (z:=ai u.y) rfl (aa (z:=ai v.x) rfl (aa (GM n u1 v2 u2 v1) ?_))))
 rfl
theorem uX{u v:V}(hu:bd 8192 u)(hv:bd 8192 v):bd 134217728 (V.cross u v):=by
 obtain⟨u1,u2,u3⟩:=ti (k:=8192) hu
 obtain⟨v1,v2,v3⟩:=ti (k:=8192) hv
 have a1:=ew u2 v3;have a2:=ew u3 v2;have a3:=ew u3 v1;have a4:=ew u1 v3;have a5:=ew u1 v2;have a6:=ew u2 v1
 unfold bd
 simp only[V.cross]
 omega
theorem OG(n:Nat){w:V}(hw:bd 134217728 w):cA (n+5) 378 [rM w]=some (af w):=by
 unfold bd at hw
 rw[Qy];unfold Eh
 refine aa (z:=ai w.x) rfl (aa (zo n (by unfold Wd;omega)) (aa (z:=I w.x) rfl (aa (z:=.bool true) rfl ?_)))
 refine aa (z:=ai w.y) rfl (aa (zo n (by unfold Wd;omega)) (aa (z:=I w.y) rfl (aa (z:=.bool true) rfl ?_)))
 exact aa (z:=ai w.z) rfl (aa (zo n (by unfold Wd;omega)) (aa (z:=I w.z) rfl (aa (z:=.bool true) rfl rfl)))
theorem OB(n:Nat){a b:List V}(ha:Hul a)(hb:Hul b)(ka:∀ x∈a,bd 4096 x)(kb:∀ x∈b,bd 4096 x):∃ v:Bool,cA (n+11) 363 [bv a,bv b]=some (.bool v):=by
 refine tG ?_
 have hal:=ha.len;have hbl:=hb.len
 have ha0:=ha.pos;have hb0:=hb.pos
 rw[Qs];unfold Eb
 refine ab (z:=aN a) rfl ?_
 refine yC (n+4) ha.bd (by omega) ha.srt (bv a) (bv b) (fun F hF=>?_)
 refine ab (z:=aN b) rfl ?_
 refine yC (n+4) hb.bd (by omega) hb.srt (bv a) (bv b) (fun G hG=>?_)
 have lF:=hF.fok.len (by omega);have lG:=hG.fok.len (by omega)
 have hN:∀ f∈F++G,bd 549755813888 f.1.1:=fun f hf=>by
  rcases List.mem_append.1 hf with hf|hf
  ·exact xh ha.bd (hF.fok.ok f hf).1
  ·exact xh hb.bd (hG.fok.ok f hf).1
 have sep:∀ m,bd 549755813888 m->∃ v:Bool,cA (n+10) 376 [bv a,bv b,af m]=some (.bool v):=fun m hm=>OF (n+2) hm ka kb ha0 hb0 (by omega) (by omega)
 refine Bp (by show(aq F).length+(aq G).length<=1073741824;rw[aG,aG];omega) ?_
 refine dz (fun i s=>s=[.sl (aq (F++G)),I (i:Int)]) (F++G).length 0 (Nat.zero_le _) (by simp[aq,D.els]) (fun i hi s hJ=>?_) (fun s hJ=>?_)
 ·subst hJ
  obtain⟨v,hv⟩:=sep _ (hN _ (List.getElem_mem hi))
  refine ab ah (ab ae (bE (by show(i:Int)<((aq (F++G)).length:Int);rw[aG];omega) ?_))
  refine ab (z:=i) (by show D.idx (I (i:Int)) (aq (F++G)).length=_;rw[aG];exact ao hi) (ab (dH hi) (ab (z:=af (F++G)[i].1.1) rfl (ab hv (ab ae ?_))))
  cases v
  ·rw[List.length_append] at hi
   exact⟨.inl [.sl (aq (F++G)),I ((i+1:Nat):Int)],by rw[if_neg (by decide)];exact aa (aX (a:=i) (b:=1) (by omega)) rfl,rfl⟩
  ·exact⟨.inr (0,[.bool true]),rfl,.bool true,rfl,true,rfl⟩
 ·subst hJ
  obtain⟨E1,e1,l1,b1⟩:=IB n ha ka
  obtain⟨E2,e2,l2,b2⟩:=IB n hb kb
  refine⟨.inr (1,[]),aa ah (aa ae (aD (by show ¬ (((F++G).length:Int)<((aq (F++G)).length:Int));rw[aG];omega) rfl)),?_⟩
  refine vk ?_
  refine ab e1 (ab e2 ?_)
  refine dz (fun i s=>s=[I (i:Int)]) E1.length 0 (Nat.zero_le _) rfl (fun i hi s hJ=>?_) (fun s hJ=>?_)
  ·subst hJ
   refine ab (z:=E1.map af) rfl (ab ah (ab ae (bE (by show(i:Int)<((E1.map af).length:Int);rw[aC];omega) ?_)))
   refine dz (fun k s=>s=[I (k:Int)]) E2.length 0 (Nat.zero_le _) rfl (fun k hk s hK=>?_) (fun s hK=>?_)
   ·subst hK
    have u1:=b1 _ (List.getElem_mem hi)
    have u2:=b2 _ (List.getElem_mem hk)
    obtain⟨v,hv⟩:=sep _ (Eu (by decide) (uX u1 u2))
    refine ab (z:=E2.map af) rfl (ab ah (ab ae (bE (by show(k:Int)<((E2.map af).length:Int);rw[aC];omega) ?_)))
    refine ab (z:=E1.map af) rfl (ab (z:=i) (by rw[aC];exact ao hi) (ab (pX hi) (ab (z:=E2.map af) rfl (ab (z:=k) (by rw[aC];exact ao hk) (ab (pX hk) ?_)))))
    refine ab (OH (n+2) u1 u2) (ab (OG (n+5) (uX u1 u2)) (ab hv (ab ae ?_)))
    cases v
    ·exact⟨.inl [I ((k+1:Nat):Int)],by rw[if_neg (by decide)];exact aa (aX (a:=k) (b:=1) (by omega)) rfl,rfl⟩
    ·exact⟨.inr (0,[.bool true]),rfl,.inr (0,[.bool true]),rfl,.bool true,rfl,true,rfl⟩
   ·subst hK
    refine⟨.inr (1,[]),aa (z:=E2.map af) rfl (aa ah (aa ae (aD (by show ¬ ((E2.length:Int)<((E2.map af).length:Int));rw[aC];omega) rfl))),.inl [I ((i+1:Nat):Int)],?_,rfl⟩
    rw[if_neg (by decide)]
    exact aa (aX (a:=i) (b:=1) (by omega)) rfl
  ·subst hJ
   exact⟨.inr (1,[]),aa (z:=E1.map af) rfl (aa ah (aa ae (aD (by show ¬ ((E1.length:Int)<((E1.map af).length:Int));rw[aC];omega) rfl))),.bool false,rfl,false,rfl⟩
theorem rq{b c:Bool}{X:Option Bool}(h:X=some c):(if b=true then some true else X)=some (b||c):=by cases b<;>simp[h]
structure BOk(b:Bdy):Prop where
 one:1<=b.P.length
 few:b.P.length<=3
 vs:∀ l∈b.P,l.length<=10
 hul:∀ l∈b.P,Hul l
 bd:∀ l∈b.P,∀ x∈l,bd 4096 x
 m0:1<=b.m0
 m1:b.m0<=b.m1
 m2:b.m1<=1099511627776
theorem Ov(n:Nat)(b:Bdy)(hf:b.P.length<=3)(hv:∀ l∈b.P,l.length<=10):∃ e:Int,cA (n+12) 347 [jp b]=some (I e)/\(e=0->BOk b):=by
 suffices h:∃ y,cA (n+12) 347 [jp b]=some y/\∃ e:Int,y=I e/\(e=0->BOk b) by
  obtain⟨y,h,e,rfl,k⟩:=h;exact⟨e,h,k⟩
 rw[Ql];unfold D5
 obtain⟨w,hw⟩:∃ w:Bool,cA (n+11) 361 [.str b.nm]=some (.bool w):=Oz (n+9) b.nm
 have gP:D.get (jp b) [1]=some (.sl (b.P.map bv)):=rfl
 refine ab (z:=.str b.nm) rfl ?_
 refine ab (z:=.bool w) hw ?_
 refine ab bN (ab ae ?_)
 cases w
 ·exact⟨I 5,rfl,5,rfl,fun h=>by cases h⟩
 rw[if_neg (by decide)]
 refine ab gP (ab (z:=b.P.map bv) rfl (ab ah (ab ae (ab (rq (aa gP (aa (z:=b.P.map bv) rfl (aa bS ae)))) (ab ae ?_)))))
 rw[cQ]
 cases hq:(decide ((b.P.length:Int)<1)||decide ((b.P.length:Int)>8)) with
 | true=>exact⟨I 2,rfl,2,rfl,fun h=>by cases h⟩
 | false=>
 rw[if_neg (by decide)]
 refine ab (z:=I b.m0) rfl (ab ah (ab ae (ab (rq (aa (z:=I b.m1) rfl (aa (z:=I b.m0) rfl (aa ah ae)))) (ab ae (ab (rq (aa (z:=I b.m1) rfl (aa bS ae))) (ab ae (ab (rq (aa (z:=I b.r0) rfl (aa ah ae))) (ab ae (ab (rq (aa (z:=I b.r1) rfl (aa (z:=I b.r0) rfl (aa ah ae)))) (ab ae (ab (rq (aa (z:=I b.r1) rfl (aa bS ae))) (ab ae ?_))))))))))))
 cases hm:(decide (b.m0<1)||decide (b.m1<b.m0)||decide (b.m1>1099511627776)||decide (b.r0<0)||decide (b.r1<b.r0)||decide (b.r1>4000)) with
 | true=>exact⟨I 1,rfl,1,rfl,fun h=>by cases h⟩
 | false=>
 rw[if_neg (by decide)]
 simp only[Bool.or_eq_false_iff,decide_eq_false_iff_not] at hq hm
 refine dz (fun i s=>s=[I (i:Int)]/\∀ l∈b.P.take i,Hul l/\∀ x∈l,bd 4096 x) b.P.length 0 (Nat.zero_le _) ⟨rfl,by simp⟩ (fun i hi s hJ=>?_) (fun s hJ=>?_)
 ·obtain⟨rfl,hJ⟩:=hJ
  have hl:=hv _ (List.getElem_mem hi)
  refine ab gP (ab (z:=b.P.map bv) rfl (ab ah (ab ae (bE (by show(i:Int)<((b.P.map bv).length:Int);rw[cQ];omega) ?_))))
  refine ab gP (ab (z:=b.P.map bv) rfl (ab (z:=i) (by rw[cQ];exact ao hi) (ab (Bt hi) ?_)))
  rcases N8 (n+2) (l:=b.P[i]) (by omega) with⟨e,h1,h2⟩|⟨h1,h2⟩
  ·refine ab h1 (ab (z:=true) ?_ ⟨.inr (0,[I e]),rfl,I e,rfl,e,rfl,fun h=>absurd h h2⟩)
   rw[show D.beq (I e) (D.int .i64 0)=decide (e=0) from bk,decide_eq_false h2];rfl
  ·obtain⟨v,h3,h4⟩:=OA (n+10) (l:=b.P[i]) (by omega)
   refine ab h1 (ab (z:=false) rfl ?_)
   rw[if_neg (by decide)]
   refine ab gP (ab (z:=b.P.map bv) rfl (ab (z:=i) (by rw[cQ];exact ao hi) (ab (Bt hi) (ab h3 (ab bN (ab ae ?_))))))
   cases v
   ·exact⟨.inr (0,[I 1]),rfl,I 1,rfl,1,rfl,fun h=>by cases h⟩
   ·refine⟨.inl [I ((i+1:Nat):Int)],by rw[if_neg (by decide)];exact aa (aX (a:=i) (b:=1) (by omega)) rfl,rfl,?_⟩
    rw[List.take_succ_eq_append_getElem hi]
    intro l hl
    rcases List.mem_append.1 hl with hl|hl
    ·exact hJ l hl
    ·rw[List.mem_singleton.1 hl];exact⟨h2,h4 rfl⟩
 ·obtain⟨rfl,hJ⟩:=hJ
  rw[List.take_length] at hJ
  refine⟨.inr (1,[]),aa gP (aa (z:=b.P.map bv) rfl (aa ah (aa ae (aD (by show ¬ ((b.P.length:Int)<((b.P.map bv).length:Int));rw[cQ];omega) rfl)))),?_⟩
  refine vk ?_
  refine dz (fun i s=>s=[I (i:Int)]) b.P.length 0 (Nat.zero_le _) rfl (fun i hi s hK=>?_) (fun s hK=>?_)
  ·subst hK
   refine ab gP (ab (z:=b.P.map bv) rfl (ab ah (ab ae (bE (by show(i:Int)<((b.P.map bv).length:Int);rw[cQ];omega) ?_))))
   refine dz (fun k s=>s=[I (k:Int)]) i 0 (Nat.zero_le _) rfl (fun k hk s hK=>?_) (fun s hK=>?_)
   ·subst hK
    have hk':k<b.P.length:=by omega
    obtain⟨p1,p2⟩:=hJ _ (List.getElem_mem hk')
    obtain⟨q1,q2⟩:=hJ _ (List.getElem_mem hi)
    obtain⟨v,hv⟩:=OB n p1 q1 p2 q2
    refine ab ah (ab ae (bE (by show(k:Int)<(i:Int);omega) ?_))
    refine ab gP (ab (z:=b.P.map bv) rfl (ab (z:=k) (by rw[cQ];exact ao hk') (ab (Bt hk') ?_)))
    refine ab gP (ab (z:=b.P.map bv) rfl (ab (z:=i) (by rw[cQ];exact ao hi) (ab (Bt hi) (ab hv (ab bN (ab ae ?_))))))
    cases v
    ·exact⟨.inr (0,[I 150]),rfl,.inr (0,[I 150]),rfl,I 150,rfl,150,rfl,fun h=>by cases h⟩
    ·exact⟨.inl [I ((k+1:Nat):Int)],by rw[if_neg (by decide)];exact aa (aX (a:=k) (b:=1) (by omega)) rfl,rfl⟩
   ·subst hK
    refine⟨.inr (1,[]),aa ah (aa ae (aD (by show ¬ ((i:Int)<(i:Int));omega) rfl)),.inl [I ((i+1:Nat):Int)],?_,rfl⟩
    rw[if_neg (by decide)]
    exact aa (aX (a:=i) (b:=1) (by omega)) rfl
  ·subst hK
   refine⟨.inr (1,[]),aa gP (aa (z:=b.P.map bv) rfl (aa ah (aa ae (aD (by show ¬ ((b.P.length:Int)<((b.P.map bv).length:Int));rw[cQ];omega) rfl)))),I 0,rfl,0,rfl,fun _=>?_⟩
   exact⟨by omega,hf,hv,fun l hl=>(hJ l hl).1,fun l hl=>(hJ l hl).2,by omega,by omega,by omega⟩
theorem Oq(n:Nat)(b:Bdy)(hL:b.P.length<=9223372036854775807):∃ v:Bool,cA (n+13) 326 [jp b]=some (.bool v)/\(v=true->BOk b):=by
 obtain⟨v,h1,h2⟩:=Ou (n+11) b hL
 rw[Qe];unfold DY
 cases v
 ·exact⟨false,aa h1 (aa (z:=false) rfl (aa (z:=false) rfl rfl)),fun h=>by cases h⟩
 ·obtain⟨k1,k2⟩:=h2 rfl
  obtain⟨e,h3,h4⟩:=Ov n b k1 k2
  refine⟨decide (e=0),aa h1 (aa (z:=true) rfl (aa (z:=decide (e=0)) (oo (aa h3 ?_)) rfl)),fun h=>h4 (of_decide_eq_true h)⟩
  rw[show D.beq (I e) (D.int .i64 0)=decide (e=0) from bk];rfl
theorem Ok(n:Nat)(b:Bdy)(hL:b.P.length<=9223372036854775807)(v w:V):∃ o:Bool,cA (n+14) 306 [jp b,af v,af w]=some (.bool o)/\(o=true->BOk b/\j8 v=true/\j8 w=true):=by
 obtain⟨o,h1,h2⟩:=Oq n b hL
 rw[P7];unfold DQ
 cases o
 ·exact⟨false,aa h1 (aa (z:=false) rfl (aa (z:=false) rfl (aa (z:=false) rfl (aa (z:=false) rfl rfl)))),fun h=>by cases h⟩
 ·refine⟨j8 v&&j8 w,aa h1 (aa (z:=true) rfl (aa (z:=j8 v) (oo (aa (Iz (n+12) v) ae)) (aa ae (aa (z:=j8 v&&j8 w) ?_ rfl)))),fun h=>?_⟩
  ·cases j8 v
   ·rfl
   ·exact aa (Iz (n+12) w) ae
  ·simp only[Bool.and_eq_true] at h
   exact⟨h2 rfl,h.1,h.2⟩
end Sy
end
noncomputable section
namespace Sy
open Go Go.Proofs Geo
theorem IA(n:Nat){x y:Int}(hx:In x)(hy:In y)(hy0:y≠0)(hd:y ∣ x):cA (n+4) 345 [ai x,ai y]=some (ai 0):=by
 obtain⟨q,hq⟩:=hd
 have exy:x/y=q:=by rw[hq];exact Int.mul_ediv_cancel_left _ hy0
 rw[Qj];unfold D3
 by_cases hw:Wd x/\Wd y
 ·obtain⟨hx',hy'⟩:=hw
  refine aa (mV n hx') (aa (z:=I x) rfl (aa (z:=.bool true) rfl (aa (mV n hy') (aa (z:=I y) rfl (aa (z:=.bool true) rfl (aa (z:=true) rfl (aa (z:=true) rfl (aa (z:=true) rfl (aa (z:=true) ?_ (aa (z:=true) rfl (oo ?_)))))))))))
  ·rw[if_pos rfl,show D.beq (I y) (D.int .i64 0)=decide (y=0) from bk,decide_eq_false hy0];rfl
  ·have e1:D.bin .mul (I y) (I q)=some (I x):=by
    simp only[D.bin,if_true];rw[<-hq,dX (by unfold Wd at hx';simp only[inR];omega)]
   have e2:D.bin .sub (I x) (I x)=some (I 0):=by
    simp only[D.bin,if_true,Int.sub_self];rw[dX (js 0)]
   have h144:=Ip (n+2) hx' hy0 ⟨q,hq⟩
   rw[exy] at h144
   exact aa h144 (aa e1 (aa e2 (aa (AJ n (js 0)) rfl)))
 ·obtain⟨w1,b1,h1,k1⟩:=td n hx
  obtain⟨w2,b2,h2,k2⟩:=td n hy
  have hb:(b1&&b2)=false:=by
   cases b1<;>cases b2<;>first|rfl|exact absurd ⟨k1 rfl,k2 rfl⟩ hw
  have hx':x.natAbs<65536^32:=hx
  have hy':y.natAbs<65536^32:=hy
  have hl:=(fF (B:=y.natAbs) (by omega)).1
  refine aa h1 (aa (z:=I w1) rfl (aa (z:=.bool b1) rfl (aa h2 (aa (z:=I w2) rfl (aa (z:=.bool b2) rfl (aa (z:=b1) rfl (aa (z:=false) (by cases b1<;>cases b2<;>simp at hb<;>rfl) (aa (z:=false) rfl (aa (z:=false) rfl (aa (z:=false) rfl ?_))))))))))
  rw[if_neg (by decide)]
  refine aa (oV (n+1) hx) (aa bN (aa (z:=false) rfl (aa (z:=false) (by rw[if_neg (by decide)];exact aa (oV (n+1) hy) rfl) (aa (z:=false) rfl (aa (z:=false) ?_ (aa (z:=false) rfl ?_))))))
  ·rw[if_neg (by decide)]
   refine aa (tu (n+1) hy) (aa (z:=ag (ay y.natAbs)) rfl ?_)
   show D.truth (.bool (D.beq (I ((ag (ay y.natAbs)).length:Nat)) (I ((0:Nat):Int))))=_
   rw[aj,bP,decide_eq_false (by omega)];rfl
  rw[if_neg (by decide)]
  have hmod:x.natAbs%y.natAbs=0:=by rw[hq,Int.natAbs_mul];exact Nat.mul_mod_right _ _
  have h143:=GH n (zD hx') (B:=y.natAbs) (by omega) (zD hy')
  rw[hmod,bO] at h143
  have hb':(!(D.beq (.bool (decide (x<0))) (.bool (decide (y<0)))))=!(decide (decide (x<0)=decide (y<0))):=by
   by_cases h1:x<0<;>by_cases h2:y<0<;>simp[h1,h2,D.beq]
  refine aa (tu (n+1) hx) (aa (tu (n+1) hy) (aa h143 (aa (z:=.sl (ag (ay (x.natAbs/y.natAbs)))) rfl (aa (z:=.sl (ag [])) rfl ?_))))
  refine aa (z:=(0,[.sl (ag [])])) ?_ (aa (bD y) ?_)
  ·refine aa (bD x) (aa (bD y) ?_)
   rw[hb']
   refine aa (z:=!(decide (decide (x<0)=decide (y<0)))) rfl (aa (z:=false) ?_ (aa (z:=false) rfl rfl))
   cases (!(decide (decide (x<0)=decide (y<0))))<;>rfl
  ·refine aa (EK (n+1) (l:=[]) (by intro d hd;cases hd) (by simp) (by simp[aR])) ?_
   unfold sgn aR
   split<;>rfl
theorem Oo(n:Nat){a b:Int}(ha:In a)(hb:In b):cA (n+6) 324 [bU (a:Rat),bU (b:Rat)]=some (I (a7 a b)):=by
 rw[Qd];unfold DX
 have i1:In 1:=kR (js 1)
 have q1:∀ z:Int,In z->cA (n+5) 87 [ai z,ai 1]=some (ai z):=fun z hz=>by
  have:=A9 (n+1) hz i1 (by decide) (Int.one_dvd z)
  rwa [Int.ediv_one] at this
 have r1:∀ z:Int,In z->cA (n+5) 345 [ai z,ai 1]=some (ai 0):=fun z hz=>IA (n+1) hz i1 (by decide) (Int.one_dvd z)
 refine aa (Hw n (yd ha)) (aa (Hw n (yd hb)) (aa bN (aa (z:=false) rfl (aa (z:=false) rfl (aa (z:=false) rfl ?_)))))
 rw[if_neg (by decide)]
 refine aa (z:=ai a) rfl (aa (z:=ai 1) rfl (aa (z:=ai b) rfl (aa (z:=ai 1) rfl ?_)))
 refine jR (r:=(0,[I (a7 a b)])) (cl ?_) rfl
 refine aa (z:=ai a) rfl (aa (z:=ai 1) rfl (aa (q1 a ha) (aa (z:=ai b) rfl (aa (z:=ai 1) rfl (aa (q1 b hb) (aa (GL (n+2) ha hb) ?_))))))
 have hm:∀ c:Int,-1<=c->c<=1->D.bin .mul (I 1) (I c)=some (I c):=fun c h1 h2=>by
  simp only[D.bin,if_true,Int.one_mul];rw[dX (by simp only[inR];omega)]
 have hc:-1<=a7 a b/\a7 a b<=1:=by unfold a7;split<;>(try split)<;>omega
 rw[show D.beq (I (a7 a b)) (D.int .i64 0)=decide (a7 a b=0) from bk]
 by_cases h0:a7 a b=0
 ·rw[decide_eq_true h0,h0]
  refine aa (z:=false) rfl ?_
  rw[if_neg (by decide)]
  have i0:In 0:=kR (js 0)
  have s0:cA (n+5) 83 [ai 0]=some (I 0):=Hv (n+2) i0
  refine aa (z:=ai 1) rfl (aa (z:=ai a) rfl (aa (z:=ai 1) rfl (aa (r1 a ha) (aa (z:=ai 1) rfl (aa (z:=ai b) rfl (aa (z:=ai 1) rfl (aa (r1 b hb) (aa s0 (aa (z:=true) rfl (aa (z:=true) rfl (aa (z:=true) rfl (oo ?_))))))))))))
  exact aa s0 (aa s0 (aa (z:=I 0) rfl (aa (z:=I 0) rfl rfl)))
 ·rw[decide_eq_false h0]
  exact aa (z:=true) rfl (oo (aa (hm _ hc.1 hc.2) rfl))
theorem A0{a b:Int}(h:inR (a-b)):D.bin .sub (I a) (I b)=some (I (a-b)):=by
 simp only[D.bin,if_true];rw[dX h]
theorem On(n:Nat){P:List D}(h0:0<P.length)(hP:P.length<=1000):cA (n+1) 323 [.sl P]=some (.sl P.reverse):=by
 rw[Qc];unfold DW
 refine aa (z:=P) rfl (aa (A0 (a:=(P.length:Int)) (b:=1) (by simp only[inR];omega)) ?_)
 refine ba (fun i s=>s=[.sl (P.drop (P.length-i)).reverse,I ((P.length:Int)-1-i)]) P.length 0 (Nat.zero_le _) (by simp) (fun i hi s hJ=>?_) (fun s hJ=>?_)
 ·subst hJ
  left
  refine⟨_,?_,rfl⟩
  have hk:P.length-1-i<P.length:=by omega
  have e:(P.length:Int)-1-i=((P.length-1-i:Nat):Int):=by omega
  refine aa fe (aa ae (aH (by show(P.length:Int)-1-i ≥ 0;omega) ?_))
  refine aa (z:=P) rfl (aa (z:=P.length-1-i) (by show D.idx (I ((P.length:Int)-1-i)) _=_;rw[e];exact ao hk) (aa (List.getElem?_eq_getElem hk) ?_))
  rw[if_pos (by show(P.drop (P.length-i)).reverse.length+1<=1073741824;rw[List.length_reverse,List.length_drop];omega)]
  refine aa (A0 (a:=(P.length:Int)-1-i) (b:=1) (by simp only[inR];omega)) ?_
  have e1:P.drop (P.length-(i+1))=P[P.length-1-i]::P.drop (P.length-i):=by
   rw[show P.length-(i+1)=P.length-1-i by omega,List.drop_eq_getElem_cons hk,show P.length-1-i+1=P.length-i by omega]
  rw[e1,List.reverse_cons]
  have e2:(P.length:Int)-1-((i+1:Nat):Int)=(P.length:Int)-1-i-1:=by omega
  rw[e2];rfl
 ·subst hJ
  refine⟨(0,[.sl P.reverse]),?_,rfl⟩
  rw[Nat.sub_self,List.drop_zero]
  exact aa fe (aa ae (aD (by show ¬ ((P.length:Int)-1-(P.length:Int) ≥ 0);omega) rfl))
theorem pE(w:Int)(z:Nat->Int):∀ k,0<=cg w z k
 | 0=>by simp[cg]
 | k+1=>by have:=pE w z k;simp only[cg];omega
theorem oc(w:Int):∀ (k:Nat) (z:Nat->Int),cg w z (k+1)=max (w*z 1-w*z 0) 0+cg w (fun i=>z (i+1)) k
 | 0,z=>by simp[cg]
 | k+1,z=>by
  have ih:=oc w k z
  have e1:cg w z (k+1+1)=cg w z (k+1)+max (w*z (k+1+1)-w*z (k+1)) 0:=rfl
  have e2:cg w (fun i=>z (i+1)) (k+1)=cg w (fun i=>z (i+1)) k+max (w*z (k+1+1)-w*z (k+1)) 0:=rfl
  rw[e1,e2,ih];omega
theorem rI(w:Int)(z:Nat->Int):∀ k,cg w (fun i=>z (k-i)) k=cg w z k-(w*z k-w*z 0)
 | 0=>by simp[cg]
 | k+1=>by
  have ih:=rI w z k
  have e:cg w (fun i=>z (k+1-i)) (k+1)=max (w*z k-w*z (k+1)) 0+cg w (fun i=>z (k-i)) k:=by
   rw[oc]
   have:(fun i=>z (k+1-(i+1)))=fun i=>z (k-i):=by funext i;rw[show k+1-(i+1)=k-i by omega]
   rw[this];rfl
  have e1:cg w z (k+1)=cg w z k+max (w*z (k+1)-w*z k) 0:=rfl
  rw[e,e1,ih];omega
theorem n9(w:Int){z z':Nat->Int}:∀ {k},(∀ i,i<=k->z i=z' i)->cg w z k=cg w z' k
 | 0,_=>rfl
 | k+1,h=>by simp only[cg];rw[n9 w fun i hi=>h i (by omega),h k (by omega),h (k+1) (by omega)]
end Sy
end
noncomputable section
namespace Sy
open Go Go.Proofs Geo
abbrev Po:=V×(Nat->Int)
def cX(p:Po):D:=Bk p.1 p.2
theorem Bu{L:List Po}{i:Nat}(h:i<L.length):(L.map cX)[i]?=some (cX L[i]):=by simp[h]
theorem bJ(L:List Po):(L.map cX).length=L.length:=List.length_map ..
def dZ(L:List Po)(i:Nat):Int:=match L[i]? with|some p=>p.1.z|none=>0
theorem tK{L:List Po}{i:Nat}(h:i<L.length):dZ L i=L[i].1.z:=by simp[dZ,h]
theorem CD{L:List Po}(hl:L.length<=20)(h:∀ p∈L,vP p.1=true):Way (L.map cX) (dZ L):=by
 refine⟨fun i hi=>?_,fun i hi=>?_,by rw[bJ];omega⟩
 ·rw[bJ] at hi
  simp only[List.getElem_map,tK hi]
  rfl
 ·rw[bJ] at hi
  rw[tK hi]
  exact Nat.le_trans (Fc (h _ (List.getElem_mem hi))).2.2 (by decide)
theorem EV{L:List Po}{i:Nat}(h:i<L.length):dZ L.reverse i=dZ L (L.length-1-i):=by
 unfold dZ
 rw[List.getElem?_reverse h]
theorem G8{call:Nat->List D->Option D}(n:Nat)(b:Bdy)(hL:b.P.length<=9223372036854775807)(g:Int)(L:List Po)(hc:∀ f xs,f≠307->call f xs=cA (n+1034) f xs)(h307:call 307 []=some (.bool true)) :
  DP aP call (jp b) (I g) (.sl (L.map cX))=some (.bool true):=by
 unfold DP
 obtain⟨o,h306,hB⟩:=Ok (n+1020) b hL V.zero V.zero
 refine aa ((hc 306 _ (by decide)).trans h306) (aa bN (aa ae (aa (rq (aa ah ae)) (aa ae (aa (rq (aa bS ae)) (aa ae (aa (rq (aa (z:=L.map cX) rfl (aa bS ae))) (aa ae (aa (rq (c:=decide (((L.map cX).length:Int)=0)) (aa (z:=L.map cX) rfl (by rw[show D.beq (D.int .i64 ((L.map cX).length:Int)) (D.int .i64 0)=_ from bk];exact ae))) (aa ae ?_))))))))))
 rw[bJ]
 cases hq:(!o||decide (g<0)||decide (g>1048576)||decide ((L.length:Int)>20)||decide ((L.length:Int)=0)) with
 | true=>exact oo (aa h307 rfl)
 | false=>
 rw[if_neg (by decide)]
 simp only[Bool.or_eq_false_iff,decide_eq_false_iff_not,Bool.not_eq_false'] at hq
 obtain⟨⟨⟨⟨ho,g0⟩,g1⟩,l0⟩,l1⟩:=hq
 obtain⟨hB,_,_⟩:=hB ho
 refine ba (fun i s=>s=[I (i:Int)]/\∀ p∈L.take i,vP p.1=true) L.length 0 (Nat.zero_le _) ⟨rfl,by simp⟩ (fun i hi s hJ=>?_) (fun s hJ=>?_)
 ·obtain⟨rfl,hJ⟩:=hJ
  obtain⟨v,h308,hv⟩:=Ol (n+1030) L[i].1 L[i].2
  have hh:∀ {X:Sum (List D) (Nat×List D)},(Option.bind (call 308 [cX L[i]]) fun r25=>Option.bind (D.truth (D.bool (!(D.beq r25 (D.int .i64 0))))) fun b26=>if b26 then(Option.bind (call 307 []) fun r27=>some (Sum.inr (0,[r27]))) else(Option.bind (D.bin .add (List.getD [I (i:Int)] 0 (.bool false)) (D.int .i64 1)) fun x28=>some (Sum.inl [x28])))=some X ->
    (Option.bind (D.asSl (.sl (L.map cX))) fun l19=>Option.bind (D.bin .lss (List.getD [I (i:Int)] 0 (.bool false)) (D.int .i64 (l19.length))) fun x20=>Option.bind (D.truth x20) fun b21=>
     if b21 then(Option.bind (D.asSl (.sl (L.map cX))) fun l22=>Option.bind (D.idx (List.getD [I (i:Int)] 0 (.bool false)) (l22.length)) fun wP=>Option.bind (l22[wP]?) fun x24=>Option.bind (call 308 [x24]) fun r25=>Option.bind (D.truth (D.bool (!(D.beq r25 (D.int .i64 0))))) fun b26=>if b26 then(Option.bind (call 307 []) fun r27=>some (Sum.inr (0,[r27]))) else(Option.bind (D.bin .add (List.getD [I (i:Int)] 0 (.bool false)) (D.int .i64 1)) fun x28=>some (Sum.inl [x28]))) else(some (Sum.inr (1,[]))))=some X:=fun h=>
   aa (z:=L.map cX) rfl (aa ah (aa ae (aH (by show(i:Int)<((L.map cX).length:Int);rw[bJ];omega) (aa (z:=L.map cX) rfl (aa (z:=i) (by rw[bJ];exact ao hi) (aa (Bu hi) h))))))
  cases v with
  | true=>
   left
   refine⟨[I ((i+1:Nat):Int)],hh (aa ((hc 308 _ (by decide)).trans h308) (aa (z:=false) rfl ?_)),rfl,?_⟩
   ·rw[if_neg (by decide)]
    exact aa (aX (a:=i) (b:=1) (by omega)) rfl
   ·rw[List.take_succ_eq_append_getElem hi]
    intro p hp
    rcases List.mem_append.1 hp with hp|hp
    ·exact hJ p hp
    ·rw[List.mem_singleton.1 hp];exact(hv rfl).1
  | false=>
   right
   exact⟨(0,[.bool true]),hh (aa ((hc 308 _ (by decide)).trans h308) (aa (z:=true) rfl (oo (aa h307 rfl)))),rfl⟩
 ·obtain⟨rfl,hJ⟩:=hJ
  rw[List.take_length] at hJ
  refine⟨(1,[]),aa (z:=L.map cX) rfl (aa ah (aa ae (aD (by show ¬ ((L.length:Int)<((L.map cX).length:Int));rw[bJ];omega) rfl))),?_⟩
  rw[if_neg (by decide)]
  have hlen:0<L.length:=by omega
  have m0:=hB.m0;have m1:=hB.m1;have m2:=hB.m2
  have hm:b.m0.natAbs<=2^60:=by rw[show(2:Nat)^60=1152921504606846976 from rfl];omega
  have hg:g.natAbs<=2^60:=by rw[show(2:Nat)^60=1152921504606846976 from rfl];omega
  have hb:D.get (jp b) [2,0]=some (I b.m0):=rfl
  have w1:=CD (by omega) hJ
  have w2:=CD (L:=L.reverse) (by rw[List.length_reverse];omega) (fun p hp=>hJ p (List.mem_reverse.1 hp))
  have h1:=Iy n hb hm hg w1
  have h2:=Iy n hb hm hg w2
  rw[bJ] at h1 h2
  rw[List.length_reverse] at h2
  have hrev:cg (b.m0*g) (dZ L.reverse) (L.length-1)=cg (b.m0*g) (dZ L) (L.length-1)-(b.m0*g*dZ L (L.length-1)-b.m0*g*dZ L 0):=by
   rw[<-rI]
   exact n9 _ fun i hi=>EV (by omega)
  rw[hrev] at h2
  have h323:=On (n+1033) (P:=L.map cX) (by rw[bJ];omega) (by rw[bJ];omega)
  rw[<-List.map_reverse] at h323
  have z1:=w1.le (L.length-1) (by rw[bJ];omega)
  have z0:=w1.le 0 (by rw[bJ];omega)
  have gz:∀ i (h:i<L.length),D.get (cX L[i]) [0,2]=some (I (dZ L i)):=fun i h=>by rw[tK h];rfl
  have p1:=EJ (n+1) hb (gz (L.length-1) (by omega)) hm hg z1
  have p0:=EJ (n+1) hb (gz 0 hlen) hm hg z0
  have hw:(b.m0*g).natAbs<=2^120:=cr hm hg (by decide)
  have hcl:(cg (b.m0*g) (dZ L) (L.length-1)).natAbs<=2^191:=by
   refine Nat.le_trans (pD hw _ (fun i hi=>w1.le i (by rw[bJ];omega)) (by omega)) ?_
   rw[show(2:Nat)^191=1024*2^181 from(Nat.pow_add 2 10 181).symm ▸ rfl]
   exact Nat.mul_le_mul_right _ (by omega)
  have q1:=(qu hm hg z1).2
  have q0:=(qu hm hg z0).2
  have nn:=pE (b.m0*g) (dZ L) (L.length-1)
  have nr:=pE (b.m0*g) (dZ L.reverse) (L.length-1)
  rw[hrev] at nr
  generalize b.m0*g*dZ L (L.length-1)=A at *
  generalize b.m0*g*dZ L 0=B at *
  generalize cg (b.m0*g) (dZ L) (L.length-1)=C at *
  have q2:(A-B).natAbs<=2^181:=jT q1 q0
  have q3:(C-(A-B)).natAbs<=2^192:=jT hcl (rp q2 (by decide))
  have s1:=I6 (n+1027) q1 q0 (by decide) (by decide)
  have s2:=I6 (n+1027) hcl q3 (by decide) (by decide)
  have e2:C-(C-(A-B))=A-B:=by omega
  rw[e2] at s2
  have k1:=Oo (n+1028) (mT (by decide) hcl) (mT (by decide) q2)
  have k2:=Om (n+1028) hcl (by decide)
  refine aa ((hc 311 _ (by decide)).trans h1) (aa ((hc 323 _ (by decide)).trans h323) (aa ((hc 311 _ (by decide)).trans h2) ?_))
  refine aa (z:=L.map cX) rfl (aa (z:=I ((L.length-1:Nat):Int)) ?_ (aa (z:=L.map cX) rfl (aa (z:=L.length-1) (by rw[bJ];exact ao (by omega)) (aa (Bu (by omega)) (aa ((hc 313 _ (by decide)).trans p1) ?_)))))
  ·rw[bJ]
   exact ik (a:=L.length) (b:=1) rfl (by omega) (by omega)
  refine aa (z:=L.map cX) rfl (aa (z:=0) (by rw[bJ];exact ao (by omega)) (aa (Bu hlen) (aa ((hc 313 _ (by decide)).trans p0) (aa ((hc 39 _ (by decide)).trans s1) (aa h307 (aa ae ?_))))))
  refine aa (z:=true) (oo (aa ((hc 324 _ (by decide)).trans k1) (aa fe ?_))) (aa (z:=true) rfl (aa (z:=true) (oo (aa ((hc 322 _ (by decide)).trans k2) (aa fe ?_))) (aa (z:=true) rfl (aa (z:=true) (oo (aa ((hc 39 _ (by decide)).trans s2) ?_)) rfl))))
  ·rw[ae,decide_eq_true]
   unfold a7
   split<;>(try split)<;>omega
  ·rw[ae,decide_eq_true]
   unfold sg
   split<;>(try split)<;>omega
  ·rw[Ig];rfl
end Sy
end
noncomputable section
namespace Sy
open Go Go.Proofs Geo
def uT(k:Nat)(f:Nat)(xs:List D):Option D:=if f=307 then pw (QU 2000) 17 307 xs else cA k f xs
theorem Bb(k:Nat):gj Tryz.prog (uT k):=by
 intro f ptys rty xs y hs hy hw
 unfold uT at hy
 split at hy
 ·rename_i hf
  exact pz (zK 2000) 17 f ptys rty xs y hs (by rw[hf];exact hy) hw
 ·exact uS qh k f ptys rty xs y hs hy hw
theorem Gk{d:D}(h:wt K1 d):∃ v:V,d=af v:=by
 obtain⟨l,rfl,hl,h⟩:=h
 match l,hl with
 | [a,b,c],_=>
  obtain⟨x,rfl⟩:=h a (by simp)
  obtain⟨y,rfl⟩:=h b (by simp)
  obtain⟨z,rfl⟩:=h c (by simp)
  exact⟨⟨x,y,z⟩,rfl⟩
theorem uE{α:Type}{t:Ty}{e:α->D}(he:∀ d,wt t d->∃ v,d=e v){d:D}(h:wt (.sl t) d):∃ l:List α,d=.sl (l.map e):=by
 obtain⟨l,rfl,h⟩:=h
 have key:∀ l:List D,(∀ x∈l,wt t x)->∃ m:List α,l=m.map e:=by
  intro l
  induction l with
  | nil=>intro _;exact⟨[],rfl⟩
  | cons x l ih=>
   intro h
   obtain⟨v,rfl⟩:=he x (h x (by simp))
   obtain⟨m,rfl⟩:=ih fun y hy=>h y (by simp[hy])
   exact⟨v::m,rfl⟩
 obtain⟨m,rfl⟩:=key l h
 exact⟨m,rfl⟩
theorem Jh{d:D}(h:wt K2 d):∃ l:List V,d=aN l:=uE (e:=af) (fun d h=>Gk h) h
theorem Ji{d:D}(h:wt K3 d):∃ l:List V,d=bv l:=by
 obtain⟨l,rfl,d,l',rfl,h1,h2⟩:=h
 have h2':l'=[]:=h2
 subst h2'
 obtain⟨m,rfl⟩:=Jh h1
 exact⟨m,rfl⟩
theorem Hl{d:D}(h:wt Ib d):∃ P:List (List V),d=.sl (P.map bv):=uE (e:=bv) (fun d h=>Ji h) h
theorem Gl{d:D}(h:wt K8 d):∃ a b:Int,d=.st [I a,I b]:=by
 obtain⟨l,rfl,hl,h⟩:=h
 match l,hl with
 | [a,b],_=>
  obtain⟨x,rfl⟩:=h a (by simp)
  obtain⟨y,rfl⟩:=h b (by simp)
  exact⟨x,y,rfl⟩
theorem Hm{d:D}(h:wt fd d):∃ b:Bdy,d=jp b:=by
 obtain⟨l,rfl,d1,l1,rfl,h1,d2,l2,rfl,h2,d3,l3,rfl,h3,d4,l4,rfl,h4,h5⟩:=h
 have h5':l4=[]:=h5
 subst h5'
 obtain⟨s,rfl⟩:=h1
 obtain⟨P,rfl⟩:=Hl h2
 obtain⟨m0,m1,rfl⟩:=Gl h3
 obtain⟨r0,r1,rfl⟩:=Gl h4
 exact⟨⟨s,P,m0,m1,r0,r1⟩,rfl⟩
theorem Hn{d:D}(h:wt ke d):∃ q:Nat->Int,d=vg q:=by
 obtain⟨l,rfl,hl,h⟩:=h
 match l,hl with
 | [a,b,c,e],_=>
  obtain⟨x,rfl⟩:=h a (by simp)
  obtain⟨y,rfl⟩:=h b (by simp)
  obtain⟨z,rfl⟩:=h c (by simp)
  obtain⟨w,rfl⟩:=h e (by simp)
  exact⟨fun i=>[x,y,z,w].getD i 0,rfl⟩
theorem Ho{d:D}(h:wt uK d):∃ p:Po,d=cX p:=by
 obtain⟨l,rfl,d1,l1,rfl,h1,d2,l2,rfl,h2,h5⟩:=h
 have h5':l2=[]:=h5
 subst h5'
 obtain⟨v,rfl⟩:=Gk h1
 obtain⟨q,rfl⟩:=Hn h2
 exact⟨(v,q),rfl⟩
theorem Hp{d:D}(h:wt zj d):∃ L:List Po,d=.sl (L.map cX):=uE (e:=cX) (fun d h=>Ho h) h
theorem OW{b:Bdy}(h:Gb (jp b)):b.P.length<=9223372036854775807:=by
 have:=h.2.1.1
 rw[List.length_map] at this
 exact this
theorem ctr303{d e g:D}(h:wt fd d)(h':wt (.int .i64) e)(h'':wt zj g)(ho:Gb d):HY Tryz.prog [fd,.int .i64,zj] .bool 6 [d,e,g] (.bool true):=by
 have hw:dU [fd,.int .i64,zj] [d,e,g]:=⟨_,_,rfl,h,_,_,rfl,h',_,_,rfl,h'',rfl⟩
 obtain⟨b,rfl⟩:=Hm h
 obtain⟨k,rfl⟩:=h'
 obtain⟨L,rfl⟩:=Hp h''
 refine Ie qh (uT (0+1034)) (Bb _) [fd,.int .i64,zj] .bool [jp b,I k,.sl (L.map cX)] (.bool true) (by kernel_rfl) ?_ hw
 exact G8 0 b (OW ho) k L (fun f xs hf=>by unfold uT;rw[if_neg hf]) (by unfold uT;rw[if_pos rfl];exact xL)
end Sy
end
noncomputable section
open Go Go.ChangeShapes Go.WideShapes Go.ChangeAt Go.RowKit
theorem OX:ownKnob Tryz.prog.godebug=none:=by kernel_rfl
theorem BB:laidOutB Tryz.prog=true:=by kernel_rfl
theorem Hj:Tryz.prog.underlying 4=some .bool:=by kernel_rfl
theorem Fi:Tryz.f6.params=#[25,3,28]:=by kernel_rfl
theorem IU:Sy.vM Tryz.prog [Sy.fd,.int .i64,Sy.zj] [25,3,28]=true:=by kernel_rfl
theorem I5:List.all [25,3,28] (fun t=>Tryz.prog.readableRec t&&decide (t<Tryz.prog.types.size))=true:=by kernel_rfl
theorem shape{α:Type}{l:List α}(h:l.length=3):∃ d0 d1 d2,l=[d0,d1,d2]:=by
 match l,h with
 | [d0,d1,d2],_=>exact⟨d0,d1,d2,rfl⟩
set_option maxRecDepth 100000 in
theorem jI(os:Os)(started:os.Started)(H:Type)(enc:TypeId×Value->H) :
  ReturnsInHanded {} Tryz.checked os 6 .any (Rows.energyOfPathsSpec.pre6 enc Tryz.prog Tryz.f6 Rows.energyOfPathsRow.domain false) (Rows.energyOfPathsSpec.post enc Tryz.prog Tryz.f6 false true false false):=by
 refine returnsInHanded_of_change (C:=Tryz.checked) OX started (by kernel_rfl) (show Tryz.prog.funcs[6]?=some Tryz.f6 by kernel_rfl)
  (ChangeSpec.witness6 (enc:=enc) (C:=Tryz.checked) false ⟨#[],#[.agg #[.string ByteArray.empty,.slice none 0 0,.int .i64 0,.int .i64 0,.int .i64 0,.int .i64 0],.int .i64 0,.slice none 0 0],[]⟩ 8 (by kernel_rfl) (by kernel_rfl) (by kernel_rfl) (by kernel_rfl)) ?_
 intro W base args ds gs before hval0 hW hcnd _
 have hval:∀ (j:Nat) t v,Tryz.f6.params[j]?=some t->args[j]?=some v->Value.okWide Tryz.prog W .any base t v:=hval0
 have hW':=hW
 obtain⟨p,q,hA0,hV,rfl,hfz,hnd⟩:=hW
 have hA:DataW.TrodAll enc Tryz.prog W 0 (fun _=>true) true Tryz.f6.params.toList args.toList ds p:=hA0
 rw[Fi] at hA hval
 obtain⟨rfl,rfl⟩:=trodVars_none hV
 clear hA0 hval0
 obtain⟨xs,hx,ho,hlen,hd⟩:=Sy.Es IU hA (fun j t v h1 h2=>hval j t v (by simpa using h1) (by simpa using h2))
 have hx':=hx
 obtain⟨x0,r0,rfl,w0,x1,r1,rfl,w1,x2,r2,rfl,w2,hn⟩:=hx'
 have hn':_=[]:=hn
 subst hn'
 have hctr:=Sy.ctr303 w0 w1 w2 ho.1 W (Sy.mK W) args.toList (fun _ _ h=>Sy.valid_lt h) hx hlen hd
 rw[Array.toArray_toList] at hctr
 obtain⟨d0,d1,d2,rfl⟩:=shape (Sy.GR hA)
 refine Go.Calls.mono hctr fun e W' he=>?_
 obtain⟨v,rfl,⟨os',dr,hdr,rfl⟩,_,hv⟩:=he
 have hv':v=.bool true:=Sy.bool_of hv
 subst hv'
 have hb:Below W.heap.size W (grown W os' dr):=⟨rfl,rfl,rfl,by simp[grown],fun k hk=>cp W os' dr hk⟩
 have hlt:∀ x∈p,x.block<W.heap.size:=fun x hx=>by simpa using hW'.lt x (by simpa using hx)
 exact⟨_,rfl,_,_,_,[],p,[],hW',trodAll_mk1 ((Go.RowKit.shut_bool (P:=Tryz.prog) Hj true)),Sy.zm BB I5 hA hb hlt,rfl,hb.frame _,fun h=>by cases h⟩
theorem energyOfPaths_holds:Rows.EnergyOfPathsSaid:=
 OpenClaim.holds_of_wide 6 Tryz.f6 rfl rfl rfl rfl rfl rfl rfl ⟨rfl,rfl,rfl,rfl,rfl⟩ rfl rfl rfl rfl rfl (by kernel_rfl) (show Tryz.prog.funcs[6]?=some Tryz.f6 by kernel_rfl) (by kernel_rfl)
  (of_decide_eq_true (by kernel_rfl)) (by unfold Func.isWrapper;first|(rw[if_pos (by decide +kernel)];kernel_rfl)|(rw[if_neg (by decide +kernel)];exact⟨rfl,rfl⟩))
  (fun os started H enc _=>jI os started H enc)
end
end Go.Proofs.YtpahompifldeeaaGreat
