/- Part 4 of the proof that PlaneNoPointOnBothSides answers true at every input -/
import Derived.Test.YtphlmegkommlnaaGreatDoorNopo03
import Derived.RangeFuncSeq
import Derived.RangeFuncRecord
import Derived.RangeFuncNested
set_option linter.unusedVariables false
set_option linter.unusedSimpArgs false
set_option linter.unnecessarySimpa false
set_option linter.defProp false
set_option maxRecDepth 20000
namespace Go.Proofs.YtphlmegkommlnaaGreatDoor
noncomputable section
namespace Sy
open Go
def gN(o:Oper):Bool:=fN o||(match o.op with|.alloc _=>true|_=>false)
def pP{R:Type}(E:Env)(s:St){o:Oper}(h:gN o=true)(K:St->Option R):sQ E s o K=qv E s o λv=>K (s.put o.dst v):=by
 obtain⟨dst,op,ty,pos,after,guard⟩:=o;cases op<;>first|rfl|(simp[gN,fN] at h;done)|skip
 rename_i c;obtain⟨callee,args,argTypes⟩:=c;cases callee<;>first|rfl|skip
 rename_i b;cases b<;>first|rfl|(simp[gN,fN] at h)
def gv{R:Type}{E:Env}{s:St}{o:Oper}{K:AV->Option R}{r:R}(h:qv E s o K=some r):∃ v,qv E s o some=some v/\K v=some r:=by
 rw[IQ] at h;exact bind_some_inv h
theorem jC(d:Option Nat):∀ (l:List (Nat×Oper)),l=(dO d l).1++(dO d l).2/\∀ p q,(dO d l).2=p::q->pZ d p.2=true
 | []=>⟨rfl,λp q h=>by simp[dO] at h⟩
 | p::l=>by
  simp only[dO];split
  ·simp_all
  ·obtain⟨h1,a⟩:=jC d l;grind
def vu{s:St}{d:Nat}{v:AV}(h:s.tm d=v):s.put (some d) v=s:=by
 simp only[St.put];split
 ·have:(λi=>if i=d then v else s.tm i)=s.tm:=by
   all_goals grind
  rw[this]
 ·rfl
def tX{s:St}{d:Nat}{v:AV}(h:d<s.nt):(s.put (some d) v).tm d=v:=by simp[St.put,h]
def jG{v:AV}{b:Bool}(h:v.truth=some b):v=.d .bool (.bool b):=by
 cases v<;>simp only[AV.truth] at h<;>first|(cases h;done)|skip
 grind [Ty.eq_of_beq,yw]
def mG{R:Type}{s:St}{g:Nat}{c want:Bool}(hc:(s.tm g).truth=some c){A B:St->Option R}{r:R}
  (h:(if c then(if want then A (s.put (some g) (.d .bool (.bool true))) else B (s.put (some g) (.d .bool (.bool true)))) else(if want then B (s.put (some g) (.d .bool (.bool false))) else A (s.put (some g) (.d .bool (.bool false)))))=some r):(if c==want then A s else B s)=some r:=by
 have e:=vu (jG hc);all_goals grind
def sV{d:Option Nat}{o:Oper}(h:pZ d o=true):∃ c x y,o.op=.pick c x y:=by
 cases hop:o.op<;>first|exact⟨_,_,_,rfl⟩|(simp[pZ,hop] at h)
def lJ{o:Oper}(h:fN o=true):gN o=true:=by simp[gN,h]
def FU{o:Oper}{c x y:Operand}(h:o.op=.pick c x y):gN o=true:=by simp[gN,fN,h]
def uG{E:Env}{ops:Array Oper}:∀ (N:Nat) (R:Type) (l:List (Nat×Oper)) (s:St) (k:St->Option R) (r:R) (m:Nat) (an:Ann),m<=l.length->(∀ p∈l.take m,gN p.2=true/\kA E p.2=false) ->
  ((∀ p∈l.drop m,∀ c x y,p.2.op≠.pick c x y)\/∀ p q,l.drop m=p::q->ko E p.2=false)->fj E N R ops an l s k=some r ->
  ∃ s' z N',seqV E ops ((l.take m).map Prod.snd) s=some s'/\Wk s' z/\fj E N' R ops an (l.drop m) z k=some r:=by
 intro N
 induction N with
 | zero=>intro R l s k r m an _ _ _ h;simp[fj] at h
 | succ N ih=>
  intro R l s k r m an hm hq ht h;cases m with
  | zero=>exact⟨s,s,N+1,rfl,Wk.refl s,by simpa using h⟩
  | succ m=>
   cases l with
   | nil=>simp at hm
   | cons p l=>
    obtain⟨i,o⟩:=p;simp only[zKa,Nat.add_le_add_iff_right] at hm;obtain⟨ho,J⟩:=hq (i,o) (by simp)
    simp only at ho J;have a5:∀ p∈l.take m,gN p.2=true/\kA E p.2=false:=λp hp=>hq p (by simp[hp])
    have n:(∀ p∈l.drop m,∀ c x y,p.2.op≠.pick c x y)\/∀ p q,l.drop m=p::q->ko E p.2=false:=by simpa using ht
    have a2:tU E o an=an:=by simp[tU,J]
    have S:∀ (s:St) (K:St->Option R),Cz E an l s o K=sQ E s o K:=λs K=>by simp[Cz,J]
    simp only[fj,a2,S] at h;have step:∀ {v:AV},val E ops s o=some v->fj E N R ops an l (s.put o.dst v) k=some r->∃ s' z N',seqV E ops (((i,o)::l).take (m+1) |>.map Prod.snd) s=some s'/\Wk s' z/\fj E N' R ops an (((i,o)::l).drop (m+1)) z k=some r:=by
     grind [seqV]
    cases hg:o.guard with
    | some jw=>
     obtain⟨j,want⟩:=jw;rw[hg] at h;simp only at h;split at h<;>first|(cases h;done)|skip
     rename_i g bl;split at h<;>first|(cases h;done)|skip
     rename_i C;by_cases a0:s.tm g=.gone
     ·simp_all [fY,val,zba]
     rw[fZ a0] at h;obtain⟨c,h1,D⟩:=bind_some_inv h;replace D:=mG (A:=λs=>sQ E s o λs'=>fj E N R ops an l s' k) (B:=λs=>fj E N R ops an l (s.put o.dst .gone) k) h1 D;split at D
     ·rename_i hc;rw[pP E s ho] at D;obtain⟨v,h3,Q⟩:=gv D
      simp_all [val,zba,fZ]
     ·simp_all [val,zba,fZ]
    | none=>
     rw[hg] at h;simp only at h;split at h
     ·
      rename_i T;simp only[m8,zaa] at T;obtain⟨_,f⟩:=T;obtain⟨G,e2⟩:=jC o.dst l;generalize dO o.dst l=sp at *;obtain⟨a,rest⟩:=sp;simp only at h G e2 f;split at h<;>first|(cases h;done)|skip
      rename_i _ _ jj w t d hd;simp only[hd] at f;simp only[zaa,decide_eq_true_eq,zCa,zma] at f;obtain⟨⟨⟨⟨⟨c1,c2⟩,c3⟩,cI⟩,c4⟩,c5⟩:=f;have a4:=e2 _ _ rfl;obtain⟨pc,px,py,a3⟩:=sV a4;have bk:a.length<m:=by
       rcases zla a.length m with h0|h0
       ·exact h0
       ·exfalso;rcases n with n|n
        ·have:(jj,w)∈l.drop m:=by
          grind
         grind
        ·have Z:l.drop m=a.drop m++(jj,w)::t:=by rw[G,List.drop_append_of_le_length h0]
         cases hsd:a.drop m with
         | nil=>
          rw[hsd] at Z;have:=n _ _ Z;have V:w.op=.pick pc px py:=a3;simp[ko,kA,fN,V] at this
         | cons p q=>
          rw[hsd] at Z;have h1:=n _ _ Z;have D:=c4 p (zUb (i:=m) (by rw[hsd];simp))
          simp[ko,D.1.1,D.2] at h1
      unfold OM at h;split at h<;>first|(cases h;done)|skip
      rename_i C;rw[pP E s ho] at h;obtain⟨v,h3,Q⟩:=gv h;rw[hd] at Q;obtain⟨c,h5,h6⟩:=bind_some_inv Q;rw[tX c1] at h5;have hv:=jG h5;subst hv;obtain⟨x,F,h8⟩:=bind_some_inv h6;have u:∀ b,b=c->(s.put (some d) (.d .bool (.bool c))).put (some d) (.d .bool (.bool b))=s.put (some d) (.d .bool (.bool c)):=λb hb=>vu (by rw[tX c1,hb])
      have L:∃ Y:St->Option Bool,(∀ s2,Y s2=qv E s2 w AV.truth)/\fj E N Bool ops .leaf a (s.put (some d) (.d .bool (.bool c))) Y=some x:=by
       cases c
       ·simp only[zxa,if_false] at F;rw[u false rfl] at F;exact⟨_,λ_=>rfl,F⟩
       ·simp only[if_true] at F;rw[u true rfl] at F;exact⟨_,λ_=>rfl,F⟩
      obtain⟨Y,a1,F⟩:=L;obtain⟨s2,bi,N2,h9,ad,O⟩:=ih Bool a _ Y x a.length .leaf (zfa _) (λp hp=>by
       rw[zfb] at hp;exact⟨lJ (c4 p hp).1.1,(c4 p hp).2⟩) (.inl λp hp=>by simp at hp) F
      rw[zbd] at O;rw[zfb] at h9;have P:Y bi=some x:=by cases N2<;>simpa [fj] using O
      rw[a1] at P;obtain⟨v2,ai,aj⟩:=gv P;have W:=jG aj;obtain⟨v3,ak,al⟩:=ad.qv ai;have a6:v3=.d .bool (.bool x):=by
       rcases al with e|e
       ·rw[<-e];exact W
       ·rw[W] at e;cases e
      subst a6;have a9:Wk (s2.put w.dst (.d .bool (.bool x))) ((killD (s.put (some d) (.d .bool (.bool c))) (a.map Prod.snd)).put w.dst (.d .bool (.bool x))):=(kN _ h9).put w.dst (.inl rfl);have hlen:l.length=a.length+1+t.length:=by rw[G];simp;omega
      obtain⟨s4,bj,N4,ax,h18,h19⟩:=ih R t _ k r (m-a.length-1) an (by omega) (λp hp=>a5 p (by
       rw[G,List.take_append,List.mem_append];right;rw[show m-a.length=(m-a.length-1)+1 by omega,z8b]
       exact zia _ hp)) (by
       have e4:l.drop m=t.drop (m-a.length-1):=by
        conv=>lhs;rw[G,List.drop_append,zsc (by omega),zcc,show m-a.length=(m-a.length-1)+1 by omega,zYc]
       rwa [e4] at n) h8
      obtain⟨s5,aI,h21⟩:=Wk.seqV _ a9 ax;refine⟨s5,bj,N4,?_,h21.trans h18,?_⟩
      ·have I:l.take m=a++(jj,w)::t.take (m-a.length-1):=by
        conv=>lhs;rw[G,List.take_append,znb (by omega),show m-a.length=(m-a.length-1)+1 by omega,z8b]
       have X:val E ops s o=some (.d .bool (.bool c)):=by unfold val;rw[if_neg C,hg];exact h3
       have U:¬ kF s2 w=true:=by
        have:s2.lkS=s.lkS:=by
         have w1:=(kN _ h9).lkS;have w2:∀ (l:List Oper) (s:St),(killD s l).lkS=s.lkS:=by
          intro l
          induction l with
          | nil=>intro s;rfl
          | cons o l ih=>intro s;rw[killD,ih];exact(St.put_fields s o.dst .undef).2.2.2.2.1
         rw[<-w1,w2];exact(St.put_fields s (some d) _).2.2.2.2.1
        simp only[kF,this];have:=c5;simp only[kF] at this;rw[this];simp
       have M:val E ops s2 w=some (.d .bool (.bool x)):=by
        unfold val;rw[if_neg U];have:w.guard=none:=by simpa using c2
        rw[this];exact ak
       simp only[z8b,z9a,seqV,X,zba,I,zMb,m9,hd,h9,M];exact aI
      ·have H:l.drop m=t.drop (m-a.length-1):=by
        conv=>lhs;rw[G,List.drop_append,zsc (by omega),zcc,show m-a.length=(m-a.length-1)+1 by omega,zYc]
       simp only[zYc,H];exact h19
     ·split at h<;>first|(cases h;done)|skip
      rename_i C;rw[pP E s ho] at h;obtain⟨v,h3,Q⟩:=gv h;exact step (by unfold val;rw[if_neg C,hg];exact h3) Q
end Sy
end
noncomputable section
namespace Sy
open Go
open Go.ChangeMaps (setBlock)
variable{ro:Option Nat}{nn:Nat}
def nj{c c':Cx}(hw:∀ b o,c.S b o->c'.w.cell? ⟨b,o,none⟩=c.w.cell? ⟨b,o,none⟩)(e:∀ b o,c.S b o->c'.S b o){x:AV}{v:Value}(h:AR c x v):AR c' x.still v:=by
 cases x<;>simp only[AV.still]<;>try (simp only[AR];done)
 case d t x=>
  simp only[AR] at h ⊢;rcases h with⟨i,j,k⟩|⟨q,i,p,j,k⟩
  ·exact .inl ⟨i,j,k.mono hw e⟩
  ·exact .inr ⟨q,i,p,j,k.mono hw e⟩
 case own t u l=>
  simp only[AR,AC] at h;obtain⟨h0,hn,h1,a,cap,f,g,_⟩:=h;refine dT (by simpa only[aq] using hn) (by simp only[wt];exact⟨l,rfl,h1⟩) ?_
  have n:v=.slice a l.length cap:=au h0 f;subst n;exact gD.of_CR (g.mono hw e)
 case fptr t x=>
  simp only[AR,AC] at h ⊢;obtain⟨h0,h1,f,b,off,g,m⟩:=h;exact⟨h0,h1,f,b,off,g,m.mono hw e⟩
section
variable{P:Program}{E:Env}{w0:Root}{S S':Nat->Nat->Prop}{γ γ':Nat->Option Nat}{β β' β'':Nat->Option (Nat×Nat)}{s sc:St}{a:Act}{w w':World}
def A9{o':Ob}{x:Option Ob}(h:lE x (some o')=true):∃ o,x=some o/\∀ p,fg o' p=fg o p/\cC o' p=cC o p:=by
 cases x with
 | none=>simp[lE] at h
 | some o=>
  refine⟨o,rfl,λp=>?_⟩;cases o<;>cases o'<;>simp only[lE] at h<;>first|(cases h;done)|skip
  ·have:=Ty.eq_of_beq _ _ h;subst this;exact⟨rfl,rfl⟩
  ·have:=Ty.eq_of_beq _ _ h;subst this;cases p<;>exact⟨rfl,rfl⟩
  ·exact⟨rfl,rfl⟩
  ·cases p<;>exact⟨rfl,rfl⟩
def zM{v:Nat}(h:v∈fh s):v ∉ s.dead/\∃ t ty l,t<s.nt/\s.tm t=.own ty v l:=by
 unfold fh at h;obtain⟨t,h1,a⟩:=zFc.1 h;split at a<;>first|(cases a;done)|skip
 rename_i ty u l c;split at a<;>first|(cases a;done)|skip
 rename_i b;cases a;exact⟨by simpa using b,t,ty,l,zLa.1 h1,c⟩
def zk{v t:Nat}{ty:Ty}{l:List D}(h1:t<s.nt)(a:s.tm t=.own ty v l)(b:v ∉ s.dead):v∈fh s:=by
 grind [fh]
def By{t:Ty}{id:Nat}{p:List Nat}{cs:List Value}{dead a:List Nat}(c:∀ id b,γ id=some b->γ' id=some b)(hl:lE (s.ob id) (sc.ob id)=true)(h:AC ⟨w,S,γ,β,s.ob,dead⟩ (.ptr t id p) cs):AC ⟨w',S',γ',β'',sc.ob,a⟩ (.ptr t id p) cs:=by
 simp only[AC] at h ⊢;obtain⟨b,off,e,f,g⟩:=h;refine⟨b,off,e,c _ _ f,λo d=>?_⟩;rw[d] at hl;obtain⟨i,j,k⟩:=A9 (o':=o) hl
 simp_all
theorem ye{dead a:List Nat}(c:∀ id b,γ id=some b->γ' id=some b):∀ (l:List AV) (cs:List Value),l.all (IL s.ob sc.ob)=true->og ⟨w,S,γ,β,s.ob,dead⟩ l cs->og ⟨w',S',γ',β'',sc.ob,a⟩ l cs
 | [],cs,_,h=>by simpa only[og] using h
 | x::l,cs,hp,h=>by
  simp only[zRb,zaa] at hp;simp only[og] at h ⊢;obtain⟨v,c2,rfl,d,e⟩:=h;refine⟨v,c2,rfl,?_,ye c l c2 hp.2 e⟩;cases x<;>simp only[IL] at hp<;>first|(cases hp.1;done)|skip
  exact By c hp.1 d
def MI{n:Nat}{D F:List Nat}(a:∀ b o,S b o->w'.cell? ⟨b,o,none⟩=w.cell? ⟨b,o,none⟩)(g:∀ b o,S b o->S' b o)(z:∀ id b,γ id=some b->γ' id=some b)
  {x:AV} {v:Value} (j:∀ t u l,x=.own t u l->u ∉ s.dead->u ∉ F->u∈D/\β'' (n+D.idxOf u)=β u/\∀ b e,β u=some (b,e)->∀ m,mX w b=some m->mX w' b=some m)
  (h:AR ⟨w,S,γ,β,s.ob,s.dead⟩ x v):AR ⟨w',S',γ',β'',sc.ob,sc.dead⟩ (rX s sc n D F x) v:=by
 cases x with
 | d t y=>exact nj (c:=⟨w,S,γ,β,s.ob,s.dead⟩) (x:=.d t y) a g h
 | fptr t y=>exact nj (c:=⟨w,S,γ,β,s.ob,s.dead⟩) (x:=.fptr t y) a g h
 | own t u l=>
  simp only[rX];split
  ·exact nj (c:=⟨w,S,γ,β,s.ob,s.dead⟩) (x:=.own t u l) a g h
  ·rename_i r;simp only[zHb,not_or,List.contains_iff_mem] at r;have i:u ∉ s.dead:=r.1;obtain⟨R,B,C⟩:=j t u l rfl i r.2;simp only[AR,AC] at h ⊢;obtain⟨h0,h1,k,A,cap,H,I,J⟩:=h;refine⟨h0,h1,k,A,cap,H,I.mono a g,λ_=>?_⟩;rcases J i with q|⟨b,off,q,E,m,K,L⟩
   ·exact .inl q
   ·exact .inr ⟨b,off,q,B.trans E,m,C b _ E m K,L⟩
 | nils=>simpa only[rX,AR,AC] using h
 | ptr t id p=>
  simp only[rX];split
  ·rename_i hl;simp only[AR] at h ⊢;exact⟨h.1,By z hl h.2⟩
  ·simp only[AR]
 | mem t id=>simp only[rX,AR]
 | st U l=>simp only[rX,AR]
 | clo f l=>
  simp only[rX];split
  ·rename_i hl;simp only[AR,AC] at h ⊢;obtain⟨h0,caps,h1,k⟩:=h;exact⟨h0,caps,h1,ye z l caps hl k⟩
  ·simp only[AR]
 | map T vt id=>
  simp only[rX];split
  ·rename_i hl;simp only[AR,AC] at h ⊢;obtain⟨h0,b,e,B,C,M,N⟩:=h;refine⟨h0,b,e,z _ _ B,C,M,λo G=>?_⟩;cases hs:s.ob id with
   | none=>rw[hs,G] at hl;simp[lE] at hl
   | some O=>
    obtain⟨l,rfl⟩:=N O hs;rw[hs,G] at hl;cases o<;>simp only[lE] at hl<;>first|(cases hl;done)|skip
    simp only[zaa] at hl;have P:=Ty.eq_of_beq _ _ hl.1;have Q:=Ty.eq_of_beq _ _ hl.2
    simp_all
  ·simp only[AR]
 | yld id=>
  grind [rX,AR,AC]
 | sub sl t id p lo n=>simp only[rX,AR]
 | gone=>simp only[rX,AR]
 | undef=>simp only[rX,AR]
def BY(s:St):wK s []=fh s:=by simp[wK]
def BX{s:St}{a:List Nat}{v:Nat}:v∈wK s a↔v∈fh s/\v ∉ a:=by simp[wK]
def Ec(h:Rp w0 S γ β s a w){r J:List Nat}{sh:Nat->Prop}(G:r=wK s J)(y:sh=λb=>(∃ id,γ id=some b)\/∃ v e,v ∉ r++s.dead/\β v=some (b,e)){k:St}{B:Act}
  (x:∀ j o,k.ob j=some o->s.ob j=some o) (C:k.fresh=s.fresh+1) (c:k.dead=r++s.dead) (E:B.tmps.size=k.nt) (A:∀ t,k.nt<=t->k.tm t=.undef)
  (z:∀ t,t<B.tmps.size->AR ⟨w,S,γ,β,k.ob,r++s.dead⟩ (k.tm t) (B.tmps.getD t undef)):Rp ⟨w,S,sh⟩ S γ β k B w:=by
 have g:∀ {u},u ∉ r++s.dead->u ∉ s.dead:=λhu D=>hu (zOa _ D);have d:k.base=(s.fresh+1)*4096:=by simp only[St.base,C]
 have I:s.base+4096=(s.fresh+1)*4096:=by simp only[St.base];omega
 have F:Cx.le ⟨w,S,γ,β,s.ob,s.dead⟩ ⟨w,S,γ,β,k.ob,r++s.dead⟩:=
  ⟨λ_ _ _=>rfl,λ_ _ d=>d,λ_ _ d=>d,λid o q _=>⟨o,x _ _ q,λp=>⟨rfl,rfl⟩,λt l e=>⟨l,e,rfl⟩,λ_ _ l e=>⟨l,e⟩⟩,λu hu=>⟨g hu,λb e he=>⟨he,λn hn=>hn⟩⟩⟩
 refine⟨⟨rfl,rfl,rfl,zfa _,zfa _,λ_ _=>rfl⟩,λt K=>by rw[c];exact z t K,E,A,λid o b q d=>?_,λid b d=>⟨λq=>q.2 (by show sh b;rw[y];exact .inl ⟨id,d⟩),(h.γn id b d).2⟩,h.γi,λid hid=>h.γf id ?_,λu b e hu he=>?_,λu N b e H hu m=>h.βi u N b e H (g (c ▸ hu)) (g (c ▸ m)),λu id b e hu=>h.βγ u id b e (g (c ▸ hu)),λu hu=>h.βf u ?_,h.Sb,λb o d _=>d⟩
 ·rw[c];exact(h.obs id o b (x _ _ q) d).mono F rfl λ_ D=>D
 ·omega
 ·have m:u ∉ r++s.dead:=c ▸ hu;obtain⟨O,L,M⟩:=h.βn u b e (g m) he;exact⟨λq=>q.2 (by show sh b;rw[y];exact .inr ⟨u,e,m,he⟩),L,M⟩
 ·omega
def DI(h:Rp w0 S γ β s a w){r X:List Nat}{sh:Nat->Prop}(D:r=wK s X)(K:sh=λb=>(∃ id,γ id=some b)\/∃ v e,v ∉ r++s.dead/\β v=some (b,e))(aj:r.length<=4096){a':Act}
  (k:Rp ⟨w,S,sh⟩ S' γ' β' sc a' w') (Q:∀ b o,S b o->S' b o) (I:∀ b o,S b o->w'.cell? ⟨b,o,none⟩=w.cell? ⟨b,o,none⟩) (P:∀ id b,γ id=some b->γ' id=some b) (W:w.heap.size<=w'.heap.size) :
  ∃ β'',Rp w0 S' γ' β'' (oK s sc X) a w'/\Cx.le ⟨w',S',γ',β',sc.ob,sc.dead⟩ ⟨w',S',γ',β'',sc.ob,sc.dead⟩:=by
 have z:∀ u,u∈r->u ∉ s.dead:=λu hu=>by rw[D] at hu;exact(zM (BX.1 hu).1).1
 have O:∀ {u},u ∉ r++s.dead->u ∉ s.dead:=λhu q=>hu (zOa _ q);have L:∀ b,sh b->¬ w0.Old b:=λb c=>by
  rw[K] at c;rcases c with⟨id,c⟩|⟨u,e,hu,c⟩
  ·exact(h.γn id b c).1
  ·exact(h.βn u b e (O hu) c).1
 have F:∀ b,w0.Old b->(Root.mk w S sh).Old b:=λb c=>⟨zYa c.1 h.ext.sz,λq=>L b q c⟩;have j:∀ u∈r,∀ b e,β u=some (b,e)->(Root.mk w S sh).Old b:=λu hu b e c=>by
  refine⟨(h.βn u b e (z u hu) c).2.1,λq=>?_⟩;have q:sh b:=q;rw[K] at q;rcases q with⟨id,q⟩|⟨G,H,E,q⟩
  ·exact h.βγ u id b e (z u hu) c q
  ·have:=h.βi u G b e H (z u hu) (O E) c q
   simp_all
 obtain⟨n,hn⟩:∃ n,n=(sc.fresh+1)*4096:=⟨_,rfl⟩;have Z:sc.base+4096=n:=by rw[hn];simp only[St.base];omega
 obtain⟨β'',hβ⟩:∃ β'':Nat->Option (Nat×Nat),β''=λu=>if n<=u then(r[u-n]?).bind (λx=>if r.idxOf x=u-n then β x else none) else β' u:=⟨_,rfl⟩
 have A:∀ u b e,n<=u->β'' u=some (b,e)->∃ x∈r,u=n+r.idxOf x/\β x=some (b,e):=λu b e hu he=>by
  grind
 have blt:∀ u,u<n->β'' u=β' u:=λu hu=>by grind
 have T:∀ x∈r,β'' (n+r.idxOf x)=β x:=λx hx=>by
  have g:r.idxOf x<r.length:=List.idxOf_lt_length_of_mem hx
  simp_all
 have hle:Cx.le ⟨w',S',γ',β',sc.ob,sc.dead⟩ ⟨w',S',γ',β'',sc.ob,sc.dead⟩:=
  ⟨λ_ _ _=>rfl,λ_ _ c=>c,λ_ _ c=>c,λid o J _=>⟨o,J,λp=>⟨rfl,rfl⟩,λt l e=>⟨l,e,rfl⟩,λ_ _ l e=>⟨l,e⟩⟩,λu hu=>⟨hu,λb e he=>⟨(by
   have d:β' u=some (b,e):=he;show β'' u=some (b,e);rcases zla u n with g|y
   ·simp_all
   ·rw[k.βf u (by omega)] at d;cases d),λm hm=>hm⟩⟩⟩
 have N:∀ b,¬ (Root.mk w S sh).Old b->¬ w0.Old b:=λb c q=>c (F b q);refine⟨β'',⟨⟨k.ext.tape.trans h.ext.tape,k.ext.os.trans h.ext.os,k.ext.output.trans h.ext.output,zEa h.ext.sz k.ext.sz,zEa h.ext.dr k.ext.dr,λb c=>(k.ext.old b (F b c)).trans (h.ext.old b c)⟩,λt R=>?_,h.nt,λt R=>?_,λid o b J c=>(k.obs id o b J c).mono hle rfl λ_ q=>q,λid b c=>⟨N b (k.γn id b c).1,(k.γn id b c).2⟩,k.γi,λid hid=>k.γf id ?_,λu b e hu he=>?_,λu G b e H hu E he d=>?_,λu id b e hu he=>?_,λu hu=>?_,k.Sb,λb o c g=>h.So b o (k.So b o c (F b g)) g⟩,hle⟩
 ·have M:t<s.nt:=by rw[<-h.nt];exact R
  simp only[oK,if_pos M];rw[<-D,<-hn];refine MI I Q P (λty u l hx hu q=>?_) (h.tms t R);have hm:u∈r:=by rw[D];exact BX.2 ⟨zk M hx hu,q⟩
  refine⟨hm,T u hm,λb e he m U=>?_⟩;have:=k.ext.old b (j u hm b e he);simp only[mX,bO] at U ⊢;grind
 ·have ai:s.nt<=t:=R;simp only[oK];grind
 ·have Y:(sc.fresh+1)*4096+4096<=id:=hid;omega
 ·rcases zla u n with g|y
  ·rw[blt u g] at he;obtain⟨q1,q2,q3⟩:=k.βn u b e hu he;grind
  ·obtain⟨x,hx,_,he⟩:=A u b e y he;obtain⟨q1,q2,q3⟩:=h.βn x b e (z x hx) he;exact⟨q1,zYa q2 W,λo J hs=>q3 o J (k.So b o hs (j x hx b e he))⟩
 ·rcases zla u n with g|y
  ·rcases zla G n with C|B
   ·rw[blt u g] at he;rw[blt G C] at d;exact k.βi u G b e H hu E he d
   ·rw[blt u g] at he;obtain⟨x,hx,_,d⟩:=A G b H B d;exact absurd (j x hx b H d) (k.βn u b e hu he).1
  ·obtain⟨x,hx,ex,he⟩:=A u b e y he;rcases zla G n with C|B
   ·rw[blt G C] at d;exact absurd (j x hx b e he) (k.βn G b H E d).1
   ·obtain⟨x',V,ad,d⟩:=A G b H B d;have:=h.βi x x' b e H (z x hx) (z x' V) he d;grind
 ·rcases zla u n with g|y
  ·rw[blt u g] at he;exact k.βγ u id b e hu he
  ·obtain⟨x,hx,ex,he⟩:=A u b e y he;exact λhid=>(k.γn id b hid).1 (j x hx b e he)
 ·have E:(sc.fresh+1)*4096+4096<=u:=hu;all_goals grind
end
end Sy
end
noncomputable section
namespace Sy
open Go
open Go.ChangeMaps (setBlock)
variable{ro:Option Nat}{nn:Nat}
section
variable{P:Program}{E:Env}{w0:Root}{S:Nat->Nat->Prop}{γ:Nat->Option Nat}{β:Nat->Option (Nat×Nat)}{s:St}{a:Act}{w:World}
mutual
theorem AC.anyOb{c:Cx}(ob':Nat->Option Ob):∀ (x:AV) (t:Ty) (cs:List Value),AV.fits t x=true->AC c x cs->AC ⟨c.w,c.S,c.γ,c.β,ob',c.dead⟩ x cs
 | .d t' x,t,cs,_,h=>by simpa only[AC] using h
 | .own t' v l,t,cs,_,h=>by simpa only[AC,Zu] using h
 | .nils,t,cs,_,h=>by simpa only[AC] using h
 | .st ts' l,t,cs,hf,h=>by
  cases t<;>simp only[AV.fits] at hf<;>first|cases hf|skip
  rename_i ts;simp only[zaa] at hf;simp only[AC] at h ⊢;exact⟨h.1,h.2.1,k9.anyOb ob' l ts cs hf.2 h.2.2⟩
 | .ptr ..,t,cs,hf,_=>by cases t<;>simp[AV.fits] at hf
 | .fptr ..,t,cs,hf,_=>by cases t<;>simp[AV.fits] at hf
 | .mem ..,t,cs,hf,_=>by cases t<;>simp[AV.fits] at hf
 | .clo ..,t,cs,hf,_=>by cases t<;>simp[AV.fits] at hf
 | .map ..,t,cs,hf,_=>by cases t<;>simp[AV.fits] at hf
 | .sub ..,t,cs,hf,_=>by cases t<;>simp[AV.fits] at hf
 | .yld ..,t,cs,hf,_=>by cases t<;>simp[AV.fits] at hf
 | .gone,t,cs,hf,_=>by cases t<;>simp[AV.fits] at hf
 | .undef,t,cs,hf,_=>by cases t<;>simp[AV.fits] at hf
theorem k9.anyOb{c:Cx}(ob':Nat->Option Ob):∀ (l:List AV) (ts:List Ty) (cs:List Value),AV.fitss ts l=true->k9 c l cs->k9 ⟨c.w,c.S,c.γ,c.β,ob',c.dead⟩ l cs
 | [],ts,cs,_,h=>by simpa only[k9] using h
 | a::l,ts,cs,hf,h=>by
  cases ts<;>simp only[AV.fitss] at hf<;>first|cases hf|skip
  simp only[zaa] at hf;simp only[k9] at h ⊢;obtain⟨c1,c2,rfl,h1,h2⟩:=h;exact⟨c1,c2,rfl,AC.anyOb ob' a _ c1 hf.1 h1,k9.anyOb ob' l _ c2 hf.2 h2⟩
end
theorem jf.anyOb{c:Cx}{a:Nat->Option Ob}{b vt:Ty}:∀ {j:Nat} {l:List D} {es:List MapEntry},jf c b vt j l es->jf ⟨c.w,c.S,c.γ,c.β,a,c.dead⟩ b vt j l es
 | _,[],[],_=>trivial
 | _,[],_::_,k=>k.elim
 | _,_::_,[],k=>k.elim
 | j,x::l,e::es,k=>by
  simp only[jf] at k ⊢;exact⟨k.1,jf.anyOb k.2⟩
def fQ.anyOb{c:Cx}(a:Nat->Option Ob){x:AV}{v:Value}(h:fQ c x v):fQ ⟨c.w,c.S,c.γ,c.β,a,c.dead⟩ x v:=fQ.mono (c:=c) (c':=⟨c.w,c.S,c.γ,c.β,a,c.dead⟩) (λ_ _ _=>rfl) (λ_ _ h=>h) (λ_ _ h=>h) h
theorem gl.anyOb{c:Cx}(a:Nat->Option Ob){b:Nat}{o:Ob}(h:gl c b o):gl ⟨c.w,c.S,c.γ,c.β,a,c.dead⟩ b o:=by
 cases o<;>simp only[gl] at h ⊢
 case one t v=>
  obtain⟨h1,d,e,cs,f,g,j⟩:=h;exact⟨h1,d,e,cs,f,AC.anyOb a v t cs d g,j⟩
 case many t l=>exact h
 case mp kt vt l=>
  obtain⟨h1,d,e,es,f,g⟩:=h;exact⟨h1,d,e,es,f,g.anyOb⟩
 case lp i p=>
  obtain⟨r,h1,d,e,f⟩:=h;exact⟨r,h1,d,λt k=>(e t k).anyOb a,f⟩
 case fv v=>
  obtain⟨h1,x,d,e,f⟩:=h;exact⟨h1,x,d,e.anyOb a,f⟩
def xB{b o:Nat}{r:Loop}(h:w.heap[b]?=some (Obj.loop r)):w.cell? ⟨b,o,none⟩=none:=by simp[World.cell?,h]
def eO{b a:Nat}{x:Obj}(c:a≠b):(setBlock w b x).heap[a]?=w.heap[a]?:=by simp only[setBlock];rw[z5c (Ne.symm c)]
def gT{b:Nat}{x:Obj}(a:b<w.heap.size):(setBlock w b x).heap[b]?=some x:=World.putObj_heap_same a
def eI{b:Nat}{x:Obj}:(setBlock w b x).heap.size=w.heap.size:=by simp[setBlock]
def vK{L:Nat}{r r':Loop}(hl:w.heap[L]?=some (Obj.loop r))(b o:Nat):(setBlock w L (.loop r')).cell? ⟨b,o,none⟩=w.cell? ⟨b,o,none⟩:=by
 by_cases e:b=L
 ·subst e;rw[xB hl,xB (gT (zga.1 hl).1)]
 ·simp only[World.cell?,eO e]
def Rp.setLp(h:Rp w0 S γ β s a w){id L:Nat}(x:γ id=some L){r:Loop}(hl:w.heap[L]?=some (Obj.loop r))(r':Loop):Rp w0 S γ β (s.setOb id none) a (setBlock w L (.loop r')):=by
 have hle:Cx.le ⟨w,S,γ,β,s.ob,s.dead⟩ ⟨setBlock w L (.loop r'),S,γ,β,(s.setOb id none).ob,s.dead⟩:=by
  refine⟨λb o _=>vK hl b o,λ_ _ j=>j,λ_ _ j=>j,λi y B _=>⟨y,?_,λp=>⟨rfl,rfl⟩,λt l e=>⟨l,e,rfl⟩,λ_ _ l e=>⟨l,e⟩⟩,λv q=>⟨q,λc e he=>⟨he,λn hn=>?_⟩⟩⟩
  ·simp_all [St.setOb]
  ·have g:c≠L:=λu=>h.βγ v id c e q he (u ▸ x);have k:mX w c=some n:=hn;show mX (setBlock w L (.loop r')) c=some n;simp only[mX,bO,eO g] at k ⊢;exact k
 refine⟨oP h.ext rfl rfl rfl (by rw[eI];exact zfa _) (zfa _) (λc d=>eO λe=>(h.γn id L x).1 (e ▸ d)),λt A=>(h.tms t A).mono hle,h.nt,h.tmu,λi y c B d=>?_,λi c d=>by rw[eI];exact h.γn i c d,h.γi,h.γf,
  λv c e q he=>by rw[eI];exact h.βn v c e q he,h.βi,h.βγ,h.βf,λc o j=>by rw[eI];exact h.Sb c o j,h.So⟩
 have m:i≠id/\s.ob i=some y:=by
  all_goals simp_all [St.setOb]
 have g:c≠L:=λu=>m.1 (h.γi i id c d (u ▸ x));exact(h.obs i y c m.2 d).mono hle (eO g) λ_ z=>z
def Fm.setLp(h:Rp w0 S γ β s a w){s1:St}{L:Nat}{r r':Loop}(hl:w.heap[L]?=some (Obj.loop r))(he:Cc r r'):Fm s1 S γ a w S γ a (setBlock w L (.loop r')):=by
 have d:=(zga.1 hl).1;refine⟨λ_ _ c=>c,λb o _=>vK hl b o,λ_ _=>rfl,λi _ b c=>⟨c,?_⟩,by rw[eI];exact zfa _,λ_ _ c=>c,kY.same rfl λb=>?_⟩
 ·by_cases e:b=L
  ·subst e;exact .inr ⟨r,r',hl,gT d,he⟩
  ·exact .inl (eO e)
 ·by_cases e:b=L
  ·subst e;exact⟨λc=>(by rw[hl] at c;cases c),λ_=>⟨r',gT d⟩⟩
  ·simp_all [eO]
theorem Rp.leaveY(h:Rp w0 S γ β s a w){id L:Nat}{i:LpI}{p:Option Ex}(m:γ id=some L)(k:gl ⟨w,S,γ,β,s.ob,s.dead⟩ L (.lp i p)):Rp w0 S γ β (leaveY s id i p) a w:=by
 refine⟨h.ext,λt l=>by simp only[Sy.leaveY,AR],h.nt,λt l=>rfl,λj o b g d=>?_,h.γn,h.γi,h.γf,h.βn,h.βi,h.βγ,h.βf,h.Sb,h.So⟩
 have c:(if j=id then some (Ob.lp i p) else s.ob j)=some o:=g
 by_cases e:j=id
 ·subst e;rw[if_pos rfl] at c;cases c;rw[m] at d;cases d;exact k.anyOb _
 ·rw[if_neg e] at c;exact(h.obs j o b c d).anyOb _
def wA(s:St)(id:Nat)(i:LpI)(p:Option Ex):leaveY (s.setOb id none) id i p=leaveY s id i p:=by
 have:(λj=>if j=id then some (Ob.lp i p) else(s.setOb id none).ob j)=λj=>if j=id then some (Ob.lp i p) else s.ob j:=by
  funext j;by_cases e:j=id
  ·simp[e]
  ·simp[St.setOb,e]
 simp only[leaveY,this];rfl
theorem vr{c:Cx}:∀ (l:List (Nat×AV)) (l':List (Nat×Value)) (f:Nat->AV) (T:Array Value),l.length=l'.length->(∀ (i p:Nat) (x:AV) (q:Nat) (v:Value),l[i]?=some (p,x)->l'[i]?=some (q,v)->p=q/\AR c x v) ->
  (∀ t,t<T.size->AR c (f t) (T.getD t undef))->(l'.foldl (λtmps p=>tmps.setIfInBounds p.1 p.2) T).size=T.size/\∀ t,t<T.size->AR c (lI l f t) ((l'.foldl (λtmps p=>tmps.setIfInBounds p.1 p.2) T).getD t undef)
 | [],[],f,T,_,_,h=>⟨rfl,h⟩
 | [],_::_,f,T,hl,_,_=>by simp at hl
 | _::_,[],f,T,hl,_,_=>by simp at hl
 | (p,x)::l,(q,v)::l',f,T,hl,hx,h=>by
  obtain⟨e,d⟩:=hx 0 p x q v rfl rfl;subst e;simp only[zxc,lI];obtain⟨h1,g⟩:=vr l l' (λt=>if t=p then x else f t) (T.setIfInBounds p v) (by simpa using hl) (λi=>hx (i+1)) λt b=>by
   have a:t<T.size:=by simpa using b
   by_cases e:t=p
   ·subst e;rw[if_pos rfl];simpa [Array.getD,a] using d
   ·rw[if_neg e];have:=h t a;simp only[Array.getD] at this ⊢;rw[dif_pos a] at this;rw[dif_pos b,Array.getInternal_eq_getElem,Array.getElem_setIfInBounds_ne a (Ne.symm e)]
    rwa [Array.getInternal_eq_getElem] at this
  refine⟨by rw[h1];simp,λt b=>g t (by simpa using b)⟩
theorem s8:∀ (l:List (Nat×AV)) (f:Nat->AV) (n t:Nat),(∀ p∈l,p.1<n)->n<=t->lI l f t=f t
 | [],f,n,t,_,_=>rfl
 | (p,x)::l,f,n,t,h,a=>by
  simp only[lI];rw[s8 l _ n t (λq hq=>h q (by simp[hq])) a]
  have:=h (p,x) (by simp)
  simp only at this;rw[if_neg (by omega)]
theorem lg(h:Rp w0 S γ β s a w):∀ (l:List Operand) (i:Nat) (x:AV) (v:Value),(l.map s.opA)[i]?=some x->(l.map a.eval)[i]?=some v->AR ⟨w,S,γ,β,s.ob,s.dead⟩ x v
 | [],i,x,v,hx,_=>by simp at hx
 | y::l,0,x,v,hx,b=>by simp at hx b;subst hx;subst b;exact aX h y
 | y::l,i+1,x,v,hx,b=>by simp only[z9a,zjb] at hx b;exact lg h l i x v hx b
theorem Fm.less{s s2:St}{S':Nat->Nat->Prop}{γ':Nat->Option Nat}{a':Act}{w':World}(h:Fm s S γ a w S' γ' a' w')(c:∀ t∈s2.lkS,t∈s.lkS)(b:∀ t∈s2.lkO,t∈s.lkO):Fm s2 S γ a w S' γ' a' w':=
 ⟨h.sub,h.cell,λt d=>h.slots t (c t d),λid hid=>h.objs id (b id hid),h.sz,h.gam,h.dfs.less b⟩
def t6(c:Cx)(b:Bool):AR c (.d .bool (.bool b)) (.bool b):=gH _
def JD(hE:EnvOk P E)(h:Rp w0 S γ β s a w){o:Oper}{c:Call}(ax:o.op=.call c){id:Nat}{i:LpI}{X:List AV}(H:PF s c=some (id,i,X)){R:Type}{K:AV->St->Option R}{r:R}{an:Ann}(F:Xo E an s id i X K=some r)
  {next:Act->World->Prop} {Q:Exit->Act->World->Prop}
  (hk:∀ y v s' S' γ' β' w',K y s'=some r->Rp w0 S' γ' β' s' a w'->AR ⟨w',S',γ',β',s'.ob,s'.dead⟩ y v->Fm s S γ a w S' γ' a w'->Sk s s'->next (a.put o.dst v) w'):o.wpIn (FW ro) nn P a w next Q:=by
 obtain⟨dst,op,ty,pos,after,guard⟩:=o;simp only at ax;subst ax;obtain⟨callee,args,argTypes⟩:=c;unfold PF at H;split at H<;>first|(cases H;done)|skip
 rename_i t hc;simp only at hc;subst hc;split at H<;>first|(cases H;done)|skip
 rename_i f ht;split at H<;>first|(cases H;done)|skip
 rename_i m bi;simp only[zda,Prod.mk.injEq] at H;obtain⟨rfl,rfl,rfl⟩:=H;have hA:=aX h (.tmp t);have ad:AR ⟨w,S,γ,β,s.ob,s.dead⟩ (.yld f) (a.eval (.tmp t)):=by rw[<-ht];exact hA
 simp only[AR,AC] at ad;obtain⟨na,L,a9,hγ⟩:=ad;have hv:=au na a9;have hO:=h.obs f _ L bi hγ;simp only[gl] at hO;obtain⟨rec,hl,⟨p1,p2,p3,p4⟩,I,bx,bv⟩:=hO;unfold Xo at F;split at F<;>first|(cases F;done)|skip
 rename_i M;obtain⟨hlen,bj,bl⟩:=M;have N:args.size=rec.params.size:=by
  have:(args.toList.map s.opA).length=rec.params.toList.length:=by rw[p2];exact hlen
  simpa using this
 have bp:=run_yield (P:=P) (args:=(args.map a.eval)) hl (by simpa using N)
 refine⟨λ_ _=>trivial,?_⟩;have aI:((⟨dst,.call ⟨.value (.tmp t),args,argTypes⟩,ty,pos,after,guard⟩:Oper).semAt (FW ro).round a.eval).run P w=.ok (.round L rec.fn ((rec.params.zip (args.map a.eval)).foldl (λtmps (t,a)=>tmps.setIfInBounds t a) rec.tmps) rec.assign rec.body) w:=by
  rw[Oper.semAt_eq _ _ _ (λc=>by simp)]
  simp only[execOp,resolve,hv];simpa [Deferred.ofValue,invoke,go_sem] using bp
 rw[aI];simp only[Oper.uponIn];refine⟨λh=>(by cases h),?_⟩
 obtain⟨T,hT⟩:∃ T,T=(rec.params.zip (args.map a.eval)).foldl (λtmps (t,a)=>tmps.setIfInBounds t a) rec.tmps:=⟨_,rfl⟩;rw[<-hT];refine RoundIn.mono (R:=λen a4=>∃ v,en=.returned v/\next (a.put dst v) a4) ?_ (λen a4 ⟨v,he,hn⟩=>by subst he;exact hn)
 refine roundIn_of_wpIn trivial ?_;show Code.wpIn (FW (some L)) (nn-1) P rec.assign _ _ _;rw[p3,p4];obtain⟨W,z⟩:∃ W,W=wK s []:=⟨_,rfl⟩;obtain⟨sh,a0⟩:∃ sh:Nat->Prop,sh=λb=>(∃ id,γ id=some b)\/∃ v e,v ∉ W++s.dead/\β v=some (b,e):=⟨_,rfl⟩;have J:T.size=rec.tmps.size/\∀ t,t<rec.tmps.size->AR ⟨w,S,γ,β,s.ob,W++s.dead⟩ ((Eb s m f (args.toList.map s.opA)).tm t) (T.getD t undef):=by
  have key:=vr (c:=⟨w,S,γ,β,s.ob,W++s.dead⟩) (m.ps.zip (args.toList.map s.opA)) (m.ps.zip (args.toList.map a.eval)) (λt=>if t<m.nt then ou s.ob (m.caps t) else .undef) rec.tmps (by simp) (λj p x q v hx hv=>by
   rw[List.getElem?_zip_eq_some] at hx hv;refine⟨by have:=hx.1.symm.trans hv.1;simpa using this,?_⟩
   refine AR.mono (c:=⟨w,S,γ,β,s.ob,s.dead⟩) (c':=⟨w,S,γ,β,s.ob,W++s.dead⟩) ⟨λ_ _ _=>rfl,λ_ _ hb=>hb,λ_ _ hb=>hb,λid o ho _=>⟨o,ho,λp=>⟨rfl,rfl⟩,λt l e=>⟨l,e,rfl⟩,λ_ _ l e=>⟨l,e⟩⟩,λu hu=>⟨λhh=>hu (zOa _ hh),λb e he=>⟨he,λn hn=>hn⟩⟩⟩ (lg h _ j x v hx.2 hv.2))
   (λt ht=>by
    rw[if_pos (by omega)]
    exact Ax (c:=⟨w,S,γ,β,s.ob,s.dead⟩) (I t (by omega)))
  have e:T=(m.ps.zip (args.toList.map a.eval)).foldl (λtmps p=>tmps.setIfInBounds p.1 p.2) rec.tmps:=by
   rw[hT,<-p2,<-Array.foldl_toList,Array.toList_zip,Array.toList_map]
  rw[e];exact key
 have bk:T.size=m.nt:=J.1.trans p1;have RI:Rp ⟨w,S,sh⟩ S γ β (Eb s m f (args.toList.map s.opA)) ⟨T,[]⟩ w:=by
  refine Ec h z a0 (λj o hj=>hj) rfl (by rw[z,BY];rfl) bk (λu hu=>?_) (λu hu=>J.2 u (by rw[<-J.1];exact hu))
  have bm:m.nt<=u:=hu;show lI _ _ u=.undef;rw[s8 _ _ m.nt u (λp hp=>by
   have h1:=(List.of_mem_zip (a:=p.1) (b:=p.2) hp).1;have:=zma.1 bj _ h1;simpa using this) bm,if_neg (by omega)]
 refine hE.cod (some L) (nn-1) ⟨w,S,sh⟩ m.asg an.fst R _ S γ β _ _ w _ r (λl e=>by cases e;exact⟨rec,hl⟩) RI F λe s1 S1 γ1 β1 a1 w1 n1 n2 O V=>?_
 cases e with
 | exit j=>cases V
 | ret=>cases V
 | normal=>
 simp only at V;split at V<;>first|(cases V;done)|skip
 rename_i i1 al;simp only[HR,Exit.then];obtain⟨g1,st1⟩:=n2.objs f zoa L hγ;have ai:=n1.obs f _ L al g1;simp only[gl] at ai;obtain⟨g,B,_,_,a3,bt⟩:=ai;have Y:Cc rec g:=by
  rcases st1 with k|⟨r,r',k1,k2,U⟩
  ·rw[B,hl] at k;cases k;exact⟨rfl,rfl,rfl,rfl⟩
  ·rw[hl] at k1;cases k1;rw[B] at k2;cases k2;exact U
 refine⟨_,run_beginRound B a3,?_⟩;have a5:=(zga.1 B).1;have M1:=n1.setLp g1 B { g with state:=.busy };have F1:=Fm.setLp n1 (s1:=s1) B (r':={ g with state:=.busy }) ⟨rfl,rfl,rfl,rfl⟩;have G:(setBlock w1 L (.loop { g with state:=.busy })).heap[L]?=some (.loop { g with state:=.busy }):=gT a5;show Code.wpIn (FW (some L)) (nn-1) P m.bdy _ a1 (setBlock w1 L (.loop { g with state:=.busy }));generalize setBlock w1 L (.loop { g with state:=.busy })=w2 at M1 F1 G ⊢;have ak:s1.lkO=f::s.lkO:=O.lkO;refine hE.cod (some L) (nn-1) ⟨w,S,sh⟩ m.bdy an.snd R _ S1 γ1 β1 _ a1 w2 _ r (λl e=>by cases e;exact⟨_,G⟩) M1 V λe s2 S2 γ2 β2 a2 w3 m1 m2 m3 m4=>?_
 obtain⟨g2,st2⟩:=m2.objs f (by rw[show(s1.setOb f none).lkO=s1.lkO from rfl,ak];exact zoa) L g1
 obtain⟨A,C,e3⟩:∃ A,w3.heap[L]?=some (Obj.loop A)/\Cc rec A:=by
  rcases st2 with k|⟨r,r',k1,k2,U⟩
  ·exact⟨_,k.trans G,Y⟩
  ·rw[G] at k1;cases k1;exact⟨r',k2,U.1.trans Y.1,U.2.1.trans Y.2.1,U.2.2.1.trans Y.2.2.1,U.2.2.2.trans Y.2.2.2⟩
 have a6:=(zga.1 C).1;have F2:Fm (Eb s m f (args.toList.map s.opA)) S γ ⟨T,[]⟩ w S2 γ2 a2 w3:=(n2.trans (F1.less (s2:=s1) (λ_ h=>h) (λ_ h=>h)) O.lkS O.lkO).trans (s1:=s1) (m2.less (λ_ h=>h) (λ_ h=>h)) O.lkS O.lkO;have fin:∀ (d:Loop) (p:Option Ex) (v:Value) (y:AV),Cc A d->Zl p d->(∀ c,AR c y v)->K y (oK s (leaveY s2 f m p) [])=some r->next (a.put dst v) (setBlock w3 L (.loop d)):=by
  intro d p v y Z hd bs hK;have D:Cc rec d:=⟨Z.1.trans e3.1,Z.2.1.trans e3.2.1,Z.2.2.1.trans e3.2.2.1,Z.2.2.2.trans e3.2.2.2⟩;have F3:=F2.trans (Fm.setLp m1 (s1:=s2) C Z) (m3.lkS.trans O.lkS) (m3.lkO.trans O.lkO);have M2:=m1.setLp g2 C d;have aj:(setBlock w3 L (.loop d)).heap[L]?=some (.loop d):=gT a6;generalize setBlock w3 L (.loop d)=w4 at F3 M2 aj ⊢;have M3:=M2.leaveY (i:=m) (p:=p) g2 (by
   simp only[gl];refine⟨d,aj,⟨by rw[D.1];exact p1,by rw[D.2.1];exact p2,by rw[D.2.2.1];exact p3,by rw[D.2.2.2];exact p4⟩,λu hu=>?_,hd⟩
   rw[D.1];exact fQ.mono (c:=⟨w,S,γ,β,s.ob,s.dead⟩) F3.cell F3.sub F3.gam (I u hu))
  rw[wA] at M3;obtain⟨β'',B1,B2⟩:=DI h z a0 (by rw[z,BY];exact bl) M3 F3.sub F3.cell F3.gam F3.sz
  exact hk y v _ S2 γ2 β'' w4 hK B1 (bs _) ⟨F3.sub,F3.cell,λ_ _=>rfl,λj hj=>F3.objs j (zia _ hj),F3.sz,F3.gam,kY.same rfl F3.dfs.1⟩ ⟨rfl,rfl,rfl⟩
 cases e with
 | normal=>exact⟨_,_,run_endRound none C,_,rfl,fin _ none _ _ ⟨rfl,rfl,rfl,rfl⟩ ⟨rfl,rfl⟩ (λc=>t6 c true) m4⟩
 | ret=>exact⟨_,_,run_endRound (some .ret) C,_,rfl,fin _ (some .ret) _ _ ⟨rfl,rfl,rfl,rfl⟩ ⟨rfl,rfl⟩ (λc=>t6 c false) m4⟩
 | exit j=>exact⟨_,_,run_endRound (some (.exit j)) C,_,rfl,fin _ (some (.exit j)) _ _ ⟨rfl,rfl,rfl,rfl⟩ ⟨rfl,rfl⟩ (λc=>t6 c false) m4⟩
def Rp.later(h:Rp w0 S γ β s a w):Rp w0 S γ β (yF s) a w:=by
 have q:∀ i,((yF s):St).base+4096<=i->s.base+4096<=i:=λi b=>by
  exact zEa (Nat.add_le_add_right (zya 4096 (zAc s.fresh)) 4096) b
 exact⟨h.ext,h.tms,h.nt,h.tmu,h.obs,h.γn,h.γi,λi b=>h.γf i (q i b),h.βn,h.βi,h.βγ,λv c=>h.βf v (q v c),h.Sb,h.So⟩
def DM{E:Env}{s0:St}{m:Nat->Option Nat}{k:Nat->Option (Nat×Nat)}(h:Rp w0 S γ β s a w){l:List (Nat×Oper)}(c:(l.all λp=>zq p.2)=true)(j:∀ o∈l.map Prod.snd,Fr E s0 m k o):∀ o∈l.map Prod.snd,Fr E (yF s) γ β o:=by
 intro o' b hc d i;have g:(yF s).base=s.base+4096:=by simp only[yF,St.base];omega
 rw[g];refine⟨(j o' b hc d i).1,h.γf _ (by omega),h.βf _ (by omega),λT t e=>?_⟩
 obtain⟨p,hp,rfl⟩:=zXa.1 b;have:=zma.1 c p hp
 simp_all [zq]
end
end Sy
end
noncomputable section
namespace Sy
open Go
variable{ro:Option Nat}{nn:Nat}
def Md{E:Env}{ops:Array Oper}{N:Nat}{R:Type}{i:Nat}{o:Oper}{l:List (Nat×Oper)}{s:St}{k:St->Option R}{r:R}(V:o.guard=none)(j:m8 E s i o l=true){an:Ann}(h:fj E (N+1) R ops an ((i,o)::l) s k=some r) :
  ∃ e L f g Z Y,l=e++(L,f)::g/\gN o=true/\(∀ p∈e,gN p.2=true)/\gN f=true/\seqV E ops (o::(e.map Prod.snd++[f])) s=some Z/\Wk Z Y/\fj E N R ops an g Y k=some r:=by
 simp only[fj,V,j,if_true] at h;simp only[m8,zaa] at j;obtain⟨_,a⟩:=j;obtain⟨O,P⟩:=jC o.dst l;generalize dO o.dst l=sp at *;obtain⟨e,rest⟩:=sp;simp only at h O P a;split at h<;>first|(cases h;done)|skip
 rename_i _ _ L f g d U;simp only[U] at a;simp only[zaa,decide_eq_true_eq,zCa,zma] at a;obtain⟨⟨⟨⟨⟨c1,c2⟩,c3⟩,cI⟩,y⟩,c5⟩:=a;have X:=lJ c3;have H:=P _ _ rfl;obtain⟨pc,px,py,G⟩:=sV H;unfold OM at h;split at h<;>first|(cases h;done)|skip
 rename_i F;rw[pP E s X] at h;obtain⟨v,h3,Q⟩:=gv h;rw[U] at Q;obtain⟨c,S,h6⟩:=bind_some_inv Q;rw[tX c1] at S;have hv:=jG S;subst hv;obtain⟨x,T,h8⟩:=bind_some_inv h6;have I:∀ b,b=c->(s.put (some d) (.d .bool (.bool c))).put (some d) (.d .bool (.bool b))=s.put (some d) (.d .bool (.bool c)):=λb hb=>vu (by rw[tX c1,hb])
 have m:∃ w:St->Option Bool,(∀ s2,w s2=qv E s2 f AV.truth)/\fj E N Bool ops .leaf e (s.put (some d) (.d .bool (.bool c))) w=some x:=by
  all_goals grind
 obtain⟨w,D,T⟩:=m;obtain⟨s2,M,N2,C,z,q⟩:=uG N Bool e _ w x e.length .leaf (zfa _) (λp hp=>by
  rw[zfb] at hp;exact⟨lJ (y p hp).1.1,(y p hp).2⟩) (.inl λp hp=>by simp at hp) T
 rw[zbd] at q;rw[zfb] at C;have t:w M=some x:=by cases N2<;>simpa [fj] using q
 rw[D] at t;obtain⟨v2,A,B⟩:=gv t;have aj:=jG B;obtain⟨v3,ad,ai⟩:=z.qv A;have J:v3=.d .bool (.bool x):=by
  all_goals simp_all
 subst J;have K:Wk (s2.put f.dst (.d .bool (.bool x))) ((killD (s.put (some d) (.d .bool (.bool c))) (e.map Prod.snd)).put f.dst (.d .bool (.bool x))):=(kN _ C).put f.dst (.inl rfl);have u:val E ops s o=some (.d .bool (.bool c)):=by unfold val;rw[if_neg F,V];exact h3
 have W:¬ kF s2 f=true:=by
  have:s2.lkS=s.lkS:=by
   have w1:=(kN _ C).lkS;have w2:∀ (l:List Oper) (s:St),(killD s l).lkS=s.lkS:=by
    intro l
    induction l with
    | nil=>intro s;rfl
    | cons o l ih=>intro s;rw[killD,ih];exact(St.put_fields s o.dst .undef).2.2.2.2.1
   rw[<-w1,w2];exact(St.put_fields s (some d) _).2.2.2.2.1
  simp_all [kF]
 have n:val E ops s2 f=some (.d .bool (.bool x)):=by
  unfold val
  simp_all
 refine⟨e,L,f,g,_,_,O,X,λp hp=>lJ (y p hp).1.1,FU G,?_,K,h8⟩
 simp_all [seqV,u,zba,m9,n]
section
variable{P:Program}{E:Env}{w0:Root}{S:Nat->Nat->Prop}{γ:Nat->Option Nat}{β:Nat->Option (Nat×Nat)}{s:St}{a:Act}{w:World}{ops:Array Oper}
def sC{o:Oper}(h:Rp w0 S γ β s a w):(o.guard=none->Region.wanted o (yielded ops a.tmps)=true) ∧
  (∀ j want g c,o.guard=some (j,want)->(ops[j]?).bind (·.dst)=some g->(s.tm g).truth=some c->Region.wanted o (yielded ops a.tmps)=(c==want)) ∧
  ∀ j want g,o.guard=some (j,want)->(ops[j]?).bind (·.dst)=some g->s.tm g=.gone->Region.wanted o (yielded ops a.tmps)=false:=by
 refine⟨λd=>by simp[Region.wanted,d],λj want g c d h1 e=>?_,λj want g d h1 e=>?_⟩
 rotate_left
 ·have b:AR ⟨w,S,γ,β,s.ob,s.dead⟩ (s.tm g) (a.eval (.tmp g)):=aX h (.tmp g);rw[e] at b;have f:a.eval (.tmp g)=undef:=b;simp only[Act.eval] at f;simp only[Region.wanted,d,yielded,h1,zba];by_cases hlt:g<a.tmps.size
  ·have i:a.tmps[g]?=some undef:=by
    simp_all
   rw[i];rfl
  ·simp_all
 obtain⟨b,_⟩:=ph e (aX h (.tmp g));have i:a.tmps[g]?=some (.bool c):=by
  simp only[Act.eval] at b;by_cases hlt:g<a.tmps.size
  ·simp_all
  ·exfalso;have:s.tm g=.undef:=h.tmu g (by rw[<-h.nt];exact Nat.le_of_not_lt hlt)
   simp_all
 simp_all [Region.wanted,yielded,zba]
def zX(l:EnvOk P E)(h:Rp w0 S γ β s a w){o:Oper}(m:Fr E s γ β o){v:AV}(hq:val E ops s o=some v) :
  (Region.wanted o (yielded ops a.tmps)=true->eP P o a w λu w'=>∃ S' γ' β',Rp w0 S' γ' β' (s.put o.dst v) (a.put o.dst u) w'/\Fm s S γ a w S' γ' (a.put o.dst u) w'/\(∀ id,o.dst≠some (id-s.base)\/id<s.base->γ' id=γ id/\β' id=β id)) ∧
  (Region.wanted o (yielded ops a.tmps)=false->Rp w0 S γ β (s.put o.dst v) (a.put o.dst undef) w/\Fm s S γ a w S γ (a.put o.dst undef) w):=by
 unfold val at hq;split at hq<;>first|(cases hq;done)|skip
 rename_i k;have b:∀ t∈s.lkS,o.dst≠some t:=λt f e=>k (by simp[kF,e];exact f)
 have main:qv E s o some=some v->eP P o a w λu w'=>∃ S' γ' β',Rp w0 S' γ' β' (s.put o.dst v) (a.put o.dst u) w'/\Fm s S γ a w S' γ' (a.put o.dst u) w'/\(∀ id,o.dst≠some (id-s.base)\/id<s.base->γ' id=γ id/\β' id=β id):=by
  intro hq;obtain⟨s',h1,i⟩:=xh l h m (λT t _ f=>l.flat T t f) b (K:=some) (r:=s.put o.dst v) (by rw[IQ,hq];rfl)
  cases h1;exact i.2.2.2.2.2
 have skip:Rp w0 S γ β (s.put o.dst .gone) (a.put o.dst undef) w/\Fm s S γ a w S γ (a.put o.dst undef) w:=
  ⟨h.put (by simp[AR]) o.dst,λ_ _ d=>d,λ_ _ _=>rfl,λt f=>ci (b t f),λ_ _ _ d=>⟨d,jL.refl _ _⟩,zfa _,λ_ _ d=>d,kY.same bJ (dq.refl _)⟩
 obtain⟨w1,x,y⟩:=sC (ops:=ops) (o:=o) h;cases hg:o.guard with
 | none=>
  simp_all
 | some p=>
  obtain⟨j,want⟩:=p;rw[hg] at hq;simp only at hq;obtain⟨g,h1,i⟩:=bind_some_inv hq;by_cases hgo:s.tm g=.gone
  ·grind [fY]
  rw[fZ hgo] at i;obtain⟨c,n,q⟩:=bind_some_inv i;all_goals grind
def E3(E:Env)(s:St)(γ:Nat->Option Nat)(β:Nat->Option (Nat×Nat))(l:List Oper):Prop:=∀ o∈l,Fr E s γ β o
def Fr.keep{o o':Oper}{s':St}{γ':Nat->Option Nat}{β':Nat->Option (Nat×Nat)}(h:Fr E s γ β o')(i:∀ d,o'.dst=some d->o.dst≠some d)(b:s'.fresh=s.fresh)
  (c:∀ id,γ id=none->o.dst≠some (id-s.base)\/id<s.base->s'.ob id=s.ob id) (hk:∀ id,o.dst≠some (id-s.base)\/id<s.base->γ' id=γ id/\β' id=β id):Fr E s' γ' β' o':=by
 intro hc d a;obtain⟨h1,e,f,g⟩:=h hc d a
 simp_all [St.base,zFb]
structure Sm(s s':St):Prop where
 lkS:s'.lkS=s.lkS
 lkO:s'.lkO=s.lkO
 fresh:s'.fresh=s.fresh
 nt:s'.nt=s.nt
def Sm.sk{s s':St}(h:Sm s s'):Sk s s':=⟨h.lkS,h.lkO,h.nt⟩
def Sm.refl(s:St):Sm s s:=⟨rfl,rfl,rfl,rfl⟩
theorem Sm.trans{a b c:St}(h:Sm a b)(k:Sm b c):Sm a c:=⟨k.lkS.trans h.lkS,k.lkO.trans h.lkO,k.fresh.trans h.fresh,k.nt.trans h.nt⟩
theorem Sm.put(s:St)(d:Option Nat)(v:AV):Sm s (s.put d v):=by
 obtain⟨f,a,g,b,c,e,h⟩:=St.put_fields s d v;exact⟨c,e,a,b⟩
def Sm.wk{s s':St}(h:Wk s s'):Sm s s':=⟨h.lkS,h.lkO,h.fresh,h.nt⟩
theorem zI(k:EnvOk P E){Q:Exit->Act->World->Prop}:∀ (l b:List Oper) {S:Nat->Nat->Prop} {γ:Nat->Option Nat} {β:Nat->Option (Nat×Nat)} {s:St} {a:Act} {w:World} {s':St},Rp w0 S γ β s a w->E3 E s γ β (l++b)->(∀ (A B:List Oper) o o',l++b=A++o::B->o'∈B->∀ d,o'.dst=some d->o.dst≠some d)->seqV E ops l s=some s' ->
  (∀ S' γ' β' a' w',Rp w0 S' γ' β' s' a' w'->Fm s S γ a w S' γ' a' w'->Sm s s'->E3 E s' γ' β' b->wpListIn (FW ro) nn P ops Q b a' w')->wpListIn (FW ro) nn P ops Q (l++b) a w
 | [],b,S,γ,β,s,a,w,s',h,i,_,hq,hk=>by
  simp only[seqV,zda] at hq;subst hq;exact hk S γ β a w h (Fm.refl _ _ _ _ _) (Sm.refl s) (by simpa using i)
 | o::l,b,S,γ,β,s,a,w,s',h,i,G,hq,hk=>by
  simp only[seqV] at hq;obtain⟨v,h1,F⟩:=bind_some_inv hq;have n:Fr E s γ β o:=i o (by simp)
  obtain⟨H,I⟩:=zX k h n h1;have m:∀ o'∈l++b,∀ d,o'.dst=some d->o.dst≠some d:=λo' c=>G [] (l++b) o o' rfl c;have g:∀ (A B:List Oper) x j,l++b=A++x::B->j∈B->∀ d,j.dst=some d->x.dst≠some d:=λA B x j e hx=>G (o::A) B x j (by simp[e]) hx
  have p:=St.put_fields s o.dst v;have f:∀ {γ':Nat->Option Nat} {β':Nat->Option (Nat×Nat)},(∀ id,o.dst≠some (id-s.base)\/id<s.base->γ' id=γ id/\β' id=β id)->E3 E (s.put o.dst v) γ' β' (l++b):=λhk o' c=>
   (i o' (by simp only[zqb,zwa];exact .inr c)).keep (m o' c) p.2.1 (λid _ _=>by rw[p.1]) hk
  simp only[zqb,wpListIn];split
  ·rename_i hw;refine(bu (H hw) λu w' ⟨S',γ',β',m1,m2,m3⟩=>?_);exact zI k l b m1 (f m3) g F λS2 D C a2 z q r t y=>hk S2 D C a2 z q (m2.trans r p.2.2.2.2.1 p.2.2.2.2.2.1) ((Sm.put s o.dst v).trans t) y
  ·rename_i hw;obtain⟨m1,m2⟩:=I (by simpa using hw)
   exact⟨λ_ _=>trivial,zI k l b m1 (f λid _=>⟨rfl,rfl⟩) g F λS2 D C a2 z q r t y=>hk S2 D C a2 z q (m2.trans r p.2.2.2.2.1 p.2.2.2.2.2.1) ((Sm.put s o.dst v).trans t) y⟩
theorem mn{c:Cx}:∀ (l:List AV) (caps:List Value),l.all f8=true->og c l caps->l.length=caps.length/\∀ (i:Nat) (x:AV) (v:Value),l[i]?=some x->caps[i]?=some v->AR c x v
 | [],caps,_,h=>by simp_all [og]
 | y::l,caps,hp,h=>by
  simp only[og] at h;obtain⟨v0,c2,rfl,h1,d⟩:=h;simp only[zRb,zaa] at hp;obtain⟨f,g⟩:=mn l c2 hp.2 d;refine⟨by simp[f],λi x v hx a=>?_⟩
  cases i with
  | zero=>
   simp at hx a;subst hx;subst a;cases y<;>simp only[f8] at hp<;>first|(cases hp.1;done)|skip
   simp only[AC] at h1;obtain⟨b,off,e,j⟩:=h1;simp only[List.cons.injEq,and_true] at e;grind [AR,AC,Value.cells]
  | succ i=>simp only[zjb] at hx a;exact g i x v hx a
def O7(hE:EnvOk P E)(h:Rp w0 S γ β s a w){o:Oper}{c:Call}(hop:o.op=.call c)(hlk:∀ t∈s.lkS,o.dst≠some t){R:Type}{K:St->Option R}{r:R}{an:Ann}
  (hev:((rJ s c).bind λq=>(E.inl q.1).bind λg=>g an R s q.2 λv s'=>K (s'.put o.dst v))=some r) :
  eP P o a w λu w'=>∃ s' S' γ' β',K s'=some r/\Rp w0 S' γ' β' s' (a.put o.dst u) w'/\Fm s S γ a w S' γ' (a.put o.dst u) w'/\Sk s s':=by
 obtain⟨⟨f,avs⟩,h1,hev1⟩:=bind_some_inv hev;clear hev;obtain⟨g,h2,hev2⟩:=bind_some_inv hev1;clear hev1;simp only at h2 hev2;obtain⟨⟨fn,f1,f2,f3⟩,hI⟩:=hE.inl f g h2;have key:∃ vs:List Value,avs.length=vs.length/\(∀ (i:Nat) (x:AV) (v:Value),avs[i]?=some x->vs[i]?=some v->AR ⟨w,S,γ,β,s.ob,s.dead⟩ x v)/\(execOp a.eval o).run P w=.ok (.enter f vs.toArray) w:=by
  clear hev2 hI h2;have hb:¬ fn.body=none:=by grind
  have f2' : ¬ fn.name = "runtime.NumGoroutine" := by simpa using f2
  obtain⟨dst,op,ty,pos,after,guard⟩:=o;simp only at hop;subst hop;obtain⟨callee,args,argTypes⟩:=c;simp only[rJ] at h1;split at h1<;>first|(cases h1;done)|skip
  ·rename_i f';simp only[zda,Prod.mk.injEq] at h1;obtain⟨rfl,rfl⟩:=h1;refine⟨args.toList.map a.eval,by simp,lg h _,?_⟩
   have hm:args.map a.eval=(args.toList.map a.eval).toArray:=zpc (by simp)
   simp[execOp,resolve,Act.eval,Deferred.ofValue,invoke,callFunc,f1,f2',hb,hm]
  ·rename_i t;split at h1<;>first|(cases h1;done)|skip
   rename_i f' l ht;split at h1<;>first|(cases h1;done)|skip
   rename_i hp;simp only[zda,Prod.mk.injEq] at h1;obtain⟨rfl,rfl⟩:=h1;have hA:=aX h (.tmp t);have hA':AR ⟨w,S,γ,β,s.ob,s.dead⟩ (.clo f' l) (a.eval (.tmp t)):=by rw[<-ht];exact hA
   simp only[AR,AC] at hA';obtain⟨na,caps,hcs,hcap⟩:=hA';have hv:=au na hcs;obtain⟨k1,k2⟩:=mn l caps hp hcap;refine⟨args.toList.map a.eval++caps,by simp[k1],λi x v hx hv'=>?_,?_⟩
   ·rcases zla i (args.toList.map s.opA).length with hi|hi
    ·rw[zkb hi] at hx;rw[zkb (by simpa using hi)] at hv'
     exact lg h _ i x v hx hv'
    ·grind
   ·have hm:args.map a.eval=(args.toList.map a.eval).toArray:=zpc (by simp)
    simp[execOp,resolve,hv,Deferred.ofValue,invoke,callFunc,f1,f2',hb,hm]
 obtain⟨vs,k1,k2,k3⟩:=key;have hc:=hI an R w0 S γ β s a w avs vs _ r h k1 k2 hev2;unfold eP;rw[k3];refine hc.mono λe w' ⟨v,y,s',S',γ',β',e1,e2,e3,e4,e5,e6⟩=>⟨v,e1,s'.put o.dst y,S',γ',β',e2,e3.put e4 o.dst,⟨e5.sub,e5.cell,λt ht=>ci (hlk t ht),e5.objs,e5.sz,e5.gam,kY.same bJ e5.dfs.1⟩,?_⟩;have p:=St.put_fields s' o.dst y;exact⟨p.2.2.2.2.1.trans e6.lkS,p.2.2.2.2.2.1.trans e6.lkO,p.2.2.2.1.trans e6.nt⟩
def yX(f:EnvOk P E)(h:Rp w0 S γ β s a w){o:Oper}(d:∀ t∈s.lkS,o.dst≠some t){R:Type}{K:St->Option R}{r:R}{an:Ann}
  (b:SK E an s o (λv s'=>K (s'.put o.dst v))=some r) {next:Act->World->Prop} {Q:Exit->Act->World->Prop}
  (hk:∀ u s' S' γ' β' w',K s'=some r->Rp w0 S' γ' β' s' (a.put o.dst u) w'->Fm s S γ a w S' γ' (a.put o.dst u) w'->Sk s s'->next (a.put o.dst u) w'):o.wpIn (FW ro) nn P a w next Q:=by
 unfold SK at b;split at b<;>first|(cases b;done)|skip
 rename_i c e;split at b
 ·rename_i q k;obtain⟨id,i,g⟩:=q;refine JD f h e k b λy v s' S' γ' β' w' m0 m1 m2 m3 m4=>?_;have p:=St.put_fields s' o.dst y;exact hk v _ S' γ' β' w' m0 (m1.put m2 o.dst) ⟨m3.sub,m3.cell,λt j=>ci (d t j),m3.objs,m3.sz,m3.gam,kY.same bJ m3.dfs.1⟩ ⟨p.2.2.2.2.1.trans m4.lkS,p.2.2.2.2.2.1.trans m4.lkO,p.2.2.2.1.trans m4.nt⟩
 ·refine bu (O7 f h e d b) λu w' ⟨s',S',γ',β',m0,m1,m2,m3⟩=>?_;grind
def uH(hE:EnvOk P E){Q:Exit->Act->World->Prop}(aj:(ops.toList.all λo=>match o.op with|.store ..=>o.dst.isNone|_=>true)=true):∀ (N:Nat) (R:Type) (l:List (Nat×Oper)) {S:Nat->Nat->Prop} {γ:Nat->Option Nat} {β:Nat->Option (Nat×Nat)} {s:St} {a:Act} {w:World} (k:St->Option R) (r:R) (an:Ann),
  Rp w0 S γ β s a w->E3 E s γ β (l.map Prod.snd)->(∀ (A B:List Oper) o o',l.map Prod.snd=A++o::B->o'∈B->∀ d,o'.dst=some d->o.dst≠some d)->(∀ p∈l,p.2∈ops.toList)->fj E N R ops an l s k=some r ->
  (∀ s' S' γ' β' a' w',Rp w0 S' γ' β' s' a' w'->Fm s S γ a w S' γ' a' w'->Sk s s'->k s'=some r->Q .normal a' w')->wpListIn (FW ro) nn P ops Q (l.map Prod.snd) a w:=by
 intro N
 induction N with
 | zero=>intro R l S γ β s a w k r an _ _ _ _ h;simp[fj] at h
 | succ N ih=>
  intro R l S γ β s a w k r an h X hd C b W;cases l with
  | nil=>
   simp only[fj] at b;exact W s S γ β a w h (Fm.refl _ _ _ _ _) (Sk.refl s) b
  | cons p l=>
   obtain⟨i,o⟩:=p;have aI:Fr E s γ β o:=X o (by simp)
   have a1:∀ T x y,o.op=.store T x y->o.dst=none:=λT x y e=>by
    have:=zma.1 aj o (C (i,o) (by simp))
    rw[e] at this;simpa using this
   have ad:∀ o'∈l.map Prod.snd,∀ d,o'.dst=some d->o.dst≠some d:=λo' f=>hd [] (l.map Prod.snd) o o' rfl f;have D:∀ (A B:List Oper) x Z,l.map Prod.snd=A++x::B->Z∈B->∀ d,Z.dst=some d->x.dst≠some d:=λA B x Z e hx=>hd (o::A) B x Z (by simp[e]) hx
   have m:∀ p∈l,p.2∈ops.toList:=λp hp=>C p (by simp[hp])
   have run:¬ kF s o=true->Cz E an l s o (λs'=>fj E N R ops (tU E o an) l s' k)=some r->o.wpIn (FW ro) nn P a w (wpListIn (FW ro) nn P ops Q (l.map Prod.snd)) Q:=by
    intro q he;have n:∀ t∈s.lkS,o.dst≠some t:=λt O e=>q (by simp[kF,e];exact O)
    unfold Cz at he;split at he
    ·split at he;rename_i al;refine yX (K:=λs1=>fj E N R ops (tU E o an) l s1 k) hE h n he λu s' S' γ' β' w' m0 m1 m2 m3=>?_;have ak:E3 E s' γ' β' (l.map Prod.snd):=λo' f=>by
      obtain⟨p,hp,rfl⟩:=zXa.1 f;have:=zma.1 al p hp;exact Dz (by simpa using this)
     exact ih R l k r _ m1 ak D m m0 λs2 S2 M L a2 I F G z H=>W s2 S2 M L a2 I F (m2.trans G m3.lkS m3.lkO) (m3.trans z) H;split at he<;>first|(cases he;done)|skip
     rename_i a0;refine yX (K:=λs1=>fj E N R ops (tU E o an) l (yF s1) k) hE h n he λu s' S' γ' β' w' m0 m1 m2 m3=>?_;exact ih R l k r _ m1.later (DM m1 a0 λo' f=>X o' (by simp only[z9a,zwa];exact .inr f)) D m m0 λs2 S2 M L a2 I F G z H=>W s2 S2 M L a2 I F (m2.trans G m3.lkS m3.lkO) (m3.trans ⟨z.lkS,z.lkO,z.nt⟩) H
    obtain⟨s',h1,J⟩:=yW hE h aI (λT t _ O=>hE.flat T t O) n a1 he;obtain⟨f1,f2,f3,f4,f5,f6⟩:=J;refine bu f6 λu w' ⟨S',γ',β',m1,m2,m3⟩=>?_;exact ih R l k r _ m1 (λo' f=>(X o' (by simp only[z9a,zwa];exact .inr f)).keep (ad o' f) f3 f5 m3) D m h1 λs2 S2 M L a2 I F G z H=>W s2 S2 M L a2 I F (m2.trans G f1 f2) (Sk.trans ⟨f1,f2,f4⟩ z) H
   obtain⟨w1,I,w3⟩:=sC (ops:=ops) (o:=o) h;cases hg:o.guard with
   | some jw=>
    obtain⟨j,want⟩:=jw;simp only[fj,hg] at b;split at b<;>first|(cases b;done)|skip
    rename_i g a4;split at b<;>first|(cases b;done)|skip
    rename_i q;have n:∀ t∈s.lkS,o.dst≠some t:=λt O e=>q (by simp[kF,e];exact O)
    have p:=St.put_fields s o.dst .gone;have alt:(Region.wanted o (yielded ops a.tmps)=true/\(Cz E an l s o λs'=>fj E N R ops (tU E o an) l s' k)=some r)\/(Region.wanted o (yielded ops a.tmps)=false/\fj E N R ops (tU E o an) l (s.put o.dst .gone) k=some r):=by
     by_cases hgo:s.tm g=.gone
     ·grind [fY]
     rw[fZ hgo] at b;obtain⟨c,h1,J⟩:=bind_some_inv b;replace J:=mG (A:=λs=>Cz E an l s o λs'=>fj E N R ops (tU E o an) l s' k) (B:=λs=>fj E N R ops (tU E o an) l (s.put o.dst .gone) k) h1 J;all_goals grind
    rcases alt with⟨hw,J⟩|⟨hw,J⟩
    ·simp only[z9a,wpListIn,hw,if_true];exact run q J
    ·simp only[z9a,wpListIn,hw,zxa,if_false];refine⟨λ_ _=>trivial,?_⟩;exact ih R l k r _ (h.put (v:=.gone) (val:=undef) (by simp[AR]) o.dst) (λo' f=>(X o' (by simp only[z9a,zwa];exact .inr f)).keep (ad o' f) p.2.1 (λid _ _=>by rw[p.1]) λid _=>⟨rfl,rfl⟩) D m J λs2 S2 M L a2 I F G z H=>W s2 S2 M L a2 I F (Fm.trans (s1:=s.put o.dst .gone) ⟨λ_ _ hb=>hb,λ_ _ _=>rfl,λt O=>ci (n t O),λ_ _ _ hb=>⟨hb,jL.refl _ _⟩,zfa _,λ_ _ hb=>hb,kY.same bJ (dq.refl _)⟩ G p.2.2.2.2.1 p.2.2.2.2.2.1) ((Sm.put s o.dst .gone).sk.trans z) H
   | none=>
    by_cases hgu:m8 E s i o l=true
    ·obtain⟨V,jj,pk,U,s5,s3,e1,q1,q2,q3,q4,Y,q6⟩:=Md hg hgu b;subst e1;have el:((i,o)::(V++(jj,pk)::U)).map Prod.snd=(o::(V.map Prod.snd++[pk]))++U.map Prod.snd:=by simp
     rw[el] at X hd ⊢;refine zI hE _ _ h X hd q4 λS2 M L a2 I F G z H=>?_;refine ih R U k r an (F.wk Y) (λo' f=>?_) (λA B x Z e hx=>hd ((o::(V.map Prod.snd++[pk]))++A) B x Z (by rw[e];simp) hx) (λp hp=>C p (by simp[hp])) q6 λs2 S3 γ3 β3 a3 w3 m1 m2 m3 m4=>W s2 S3 γ3 β3 a3 w3 m1 (G.trans m2 (Y.lkS.trans z.lkS) (Y.lkO.trans z.lkO)) ((z.trans (Sm.wk Y)).sk.trans m3) m4
     have:=H o' f;intro hc d ax;obtain⟨r1,r2,r3,r4⟩:=this hc d ax;rw[Y.base_eq,Y.ob];exact⟨r1,r2,r3,r4⟩
    ·have ai:m8 E s i o l=false:=by simpa using hgu
     simp only[fj,hg,ai,zxa,if_false] at b;split at b<;>first|(cases b;done)|skip
     rename_i q;simp only[z9a,wpListIn,w1 hg,if_true];exact run q b
end
end Sy
end
noncomputable section
namespace Sy
open Go
def nH{s:St}{d:Option Nat}{v:AV}{x:Operand}(h:∀ t,d=some t->x≠.tmp t):(s.put d v).opA x=s.opA x:=by
 cases x with
 | tmp t=>
  cases d with
  | none=>rfl
  | some d=>
   have a:t≠d:=λe=>h d rfl (by rw[e])
   all_goals grind [St.opA,St.put]
 | const v=>rfl
 | global g=>rfl
 | func f=>rfl
section
variable{E:Env}{s s':St}
theorem lG(a:s'.ob=s.ob)(ty:Nat->Option Ty):∀ (l:List (Nat×Operand)),(∀ p∈l,s'.opA p.2=s.opA p.2)->partsD s'.ob s' ty l=partsD s.ob s ty l
 | [],_=>rfl
 | (i,x)::l,h=>by
  have ih:=lG a ty l (λp hp=>h p (by simp[hp]))
  simp_all [partsD,ih]
theorem pS(a:List Ty):∀ (l:List (Nat×Operand)),(∀ p∈l,s'.opA p.2=s.opA p.2)->l.all (gn s' a)=l.all (gn s a)
 | [],_=>rfl
 | p::l,h=>by
  simp only[zRb,pS a l (λq hq=>h q (by simp[hq])),gn,h p (by simp)]
def CN:∀ (l:List (Nat×Operand)),(∀ p∈l,s'.opA p.2=s.opA p.2)->(l.map λp=>(p.1,s'.opA p.2))=l.map λp=>(p.1,s.opA p.2):=λl h=>
 zXc λp hp=>by rw[h p hp]
def mU{o:Oper}(a:s'.ob=s.ob)(A:s'.fresh=s.fresh)(h:∀ x∈o.op.operands,s'.opA x=s.opA x):qv E s' o some=qv E s o some:=by
 have k:s'.base=s.base:=by simp only[St.base,A]
 obtain⟨dst,op,ty,pos,after,guard⟩:=o;have parts:∀ ps:Array (Nat×Operand),(∀ x∈(ps.toList.map Prod.snd).toArray,s'.opA x=s.opA x)->∀ p∈ps.toList,s'.opA p.2=s.opA p.2:=λps hp p hm=>hp p.2 (by rw[List.mem_toArray];exact z9b hm)
 cases op
 case move x=>simp only[qv,h x (by simp[Op.operands])]
 case assign x=>simp only[qv,h x (by simp[Op.operands])]
 case pick c x y=>simp only[qv,h c (by simp[Op.operands]),h x (by simp[Op.operands]),h y (by simp[Op.operands])]
 case alloc T=>simp only[qv,k]
 case build T ps=>
  have hp:=parts ps h;simp only[qv,lG a _ _ hp,pS _ _ hp,CN _ hp]
 case buildSlice T n ps=>
  have hp:=parts ps h;simp only[qv,lG a _ _ hp,k]
 case load T x=>simp only[qv,h x (by simp[Op.operands]),a]
 case lookup T x i c=>simp only[qv,h x (by simp[Op.operands]),h i (by simp[Op.operands]),a]
 case nilCheck x=>simp only[qv,h x (by simp[Op.operands])]
 case binOp op T x y T'=>simp only[qv,h x (by simp[Op.operands]),h y (by simp[Op.operands])]
 case unOp op T x=>simp only[qv,h x (by simp[Op.operands])]
 case convert U T x=>simp only[qv,h x (by simp[Op.operands])]
 case makeFunc fn x y=>
  have B:∀ z∈y.toList,s'.opA z=s.opA z:=λz l=>h z (by simp only[Op.operands,Array.mem_append];exact .inr (by simpa using l))
  have u:(y.toList.all λz=>f8 (s'.opA z))=y.toList.all λz=>f8 (s.opA z):=by
   grind
  have e:y.toList.map s'.opA=y.toList.map s.opA:=zXc B;simp only[qv,u,e]
 case slice T x lo hi mx=>
  have d:=h x (by simp[Op.operands])
  cases mx with
  | some m=>simp only[qv]
  | none=>
   cases lo with
   | none=>
    cases hi with
    | none=>simp only[qv,d,a]
    | some j=>simp only[qv,d,a,h j (by simp[Op.operands])]
   | some i=>
    cases hi with
    | none=>simp only[qv,d,a,h i (by simp[Op.operands])]
    | some j=>simp only[qv,d,a,h i (by simp[Op.operands]),h j (by simp[Op.operands])]
 case sliceToArrayPointer T x=>simp only[qv,h x (by simp[Op.operands]),a]
 case fieldAddr T x f=>simp only[qv,h x (by simp[Op.operands])]
 case field T x f=>simp only[qv,h x (by simp[Op.operands])]
 case indexAddr T x i=>simp only[qv,h x (by simp[Op.operands]),h i (by simp[Op.operands]),a]
 case index T x i=>simp only[qv,h x (by simp[Op.operands]),h i (by simp[Op.operands])]
 case extract x i=>simp only[qv,h x (by simp[Op.operands])]
 case call c=>
  obtain⟨callee,args,argTypes⟩:=c;have q:∀ z∈args.toList,s'.opA z=s.opA z:=λz l=>h z (by simp only[Op.operands,Call.operands,Array.mem_append];exact .inr (by simpa using l))
  have e:args.toList.map s'.opA=args.toList.map s.opA:=zXc q;cases callee with
  | invoke r m=>rfl
  | value f=>
   cases f with
   | tmp t=>
    have w:s'.tm t=s.tm t:=h (.tmp t) (by simp[Op.operands,Call.operands])
    simp only[qv,e,w,a]
   | func f=>simp only[qv,e,a,k]
   | const v=>rfl
   | global g=>rfl
  | builtin b=>
   cases b<;>first|rfl|skip
   case len=>
    simp only[qv];cases hT:argTypes[0]? with
    | none=>rfl
    | some T=>
     cases hx:args[0]? with
     | none=>rfl
     | some x=>
      have:=q x (zVb.2 (zec hx));simp only[zba,a];all_goals grind
   case min=>
    simp only[qv];all_goals grind
   case max=>
    simp only[qv];all_goals grind
 all_goals rfl
def vw{s:St}{d:Option Nat}{v:AV}{t:Nat}(h:d≠some t):(s.put d v).tm t=s.tm t:=by
 have:=nH (s:=s) (d:=d) (v:=v) (x:=.tmp t) (λu hu e=>h (by cases e;exact hu))
 exact this
def EW{ops:Array Oper}{o:Oper}{d:Option Nat}{v:AV}(h:∀ t,d=some t->t ∉ o.looksAt ops):val E ops (s.put d v) o=val E ops s o:=by
 obtain⟨f,i,m,n,k,q,r⟩:=St.put_fields s d v;have a:kF (s.put d v) o=kF s o:=by simp only[kF,k]
 have b:qv E (s.put d v) o some=qv E s o some:=mU f i λx hx=>nH λt c e=>h t c (by
  subst e;exact List.mem_append_left _ (zFc.2 ⟨.tmp t,by simpa using hx,rfl⟩))
 unfold val;rw[a,b];cases hg:o.guard with
 | none=>rfl
 | some p=>
  obtain⟨j,want⟩:=p;simp only;cases hgd:(ops[j]?).bind (·.dst) with
  | none=>rfl
  | some g=>
   have l:(s.put d v).tm g=s.tm g:=vw λe=>h g e (by
    unfold Oper.looksAt;rw[hg];exact zOa _ (by simp[hgd]))
   simp_all
def Bz{s:St}{x y:Option Nat}(v u:AV)(h:∀ d,x=some d->y≠some d):(s.put x v).put y u=(s.put y u).put x v:=by
 cases x with
 | none=>rfl
 | some d=>
  cases y with
  | none=>rfl
  | some e=>
   have a:d≠e:=λhe=>h d rfl (he ▸ rfl);by_cases h1:d<s.nt
   ·by_cases h2:e<s.nt
    ·simp only[St.put,h1,h2,if_true];all_goals grind
    ·grind [St.put]
   ·grind [St.put]
end
end Sy
end
noncomputable section
namespace Sy
open Go
variable{ro:Option Nat}{nn:Nat}
section
variable{E:Env}{ops:Array Oper}{md:Region.Mode}
def BS(E:Env)(ops:Array Oper)(i:Nat)(K:St->Prop)(s:St):Prop:=
 match ops[i]? with
 | none=>K s
 | some o=>∃ v,val E ops s o=some v/\K (s.put o.dst v)
def Fs(E:Env)(md:Region.Mode)(ops:Array Oper)(n:Nat)(L:Array Bool->St->Prop):Nat->Array Bool->St->Prop
 | 0,listed,s=>L listed s
 | f+1,listed,s=>Region.ready md ops listed≠[]/\∀ i∈Region.ready md ops listed,i<n/\BS E ops i (Fs E md ops n L f (listed.setIfInBounds i true)) s
def mq(md:Region.Mode)(ops:Array Oper)(n:Nat):Prop:=∀ listed i,HeadInv md ops n listed->i<n->listed.getD i true=false->∀ t,n<=t->t ∉ Region.ready md ops listed
def uQ{n i:Nat}{w:Oper}{v:AV}{L:Array Bool->St->Prop}(J:ops[i]?=some w)(A:mq md ops n)(p:i<n)
  (l:∀ listed s,L listed s->∀ j∈Region.ready md ops listed,n<=j) :
  ∀ (f:Nat) (listed:Array Bool) (s:St),HeadInv md ops n listed ->
   (∀ j o,j<n->ops[j]?=some o->j≠i->listed.getD j true=false->(∀ e∈o.after,Region.binds md e=true->e.on≠i)->w.apart ops o=true) ->
   i∈Region.ready md ops listed->val E ops s w=some v ->
   Fs E md ops n L f (listed.setIfInBounds i true) (s.put w.dst v)->Fs E md ops n L (f+1) listed s:=by
 intro f
 induction f with
 | zero=>
  intro listed s inv _ g C H;have c:=(mem_ready.1 g).1;refine⟨λh=>(by rw[h] at g;cases g),λj m=>?_⟩
  have b:j<n:=by
   rcases zla j n with h|h
   ·exact h
   ·exact absurd m (A _ _ inv p c j h)
  refine⟨b,?_⟩;by_cases hji:j=i
  ·simp_all [BS]
  ·have:=l _ _ H j (ready_mono m hji);omega
 | succ f ih=>
  intro listed s inv a g C H;have c:=(mem_ready.1 g).1;refine⟨λh=>(by rw[h] at g;cases g),λj m=>?_⟩
  have b:j<n:=by
   rcases zla j n with h|h
   ·exact h
   ·exact absurd m (A _ _ inv p c j h)
  refine⟨b,?_⟩;by_cases hji:j=i
  ·simp_all [BS]
  ·have h1:=(H.2 j (ready_mono m hji)).2;obtain⟨q,o,t,B⟩:=mem_ready.1 m;have r:∀ e∈o.after,Region.binds md e=true->e.on≠i:=λe he I heq=>by
    grind
   obtain⟨a1,a2,a3⟩:=Oper.apart_spec (a j o b t hji q r);unfold BS at h1 ⊢;rw[t] at h1 ⊢;obtain⟨u,D,G⟩:=h1;rw[EW a1] at D;refine⟨u,D,ih (listed.setIfInBounds j true) (s.put o.dst u) (inv.set m b) (λk ok y hk x c z=>?_) (ready_mono g (Ne.symm hji)) ?_ ?_⟩
   ·refine a k ok y hk x ?_ z;by_cases hjk:j=k
    ·simp_all
    ·simp_all
   ·rw[EW a3];exact C
   ·rw[Array.setIfInBounds_comm _ _ hji,Bz u v (λd F he=>a2 d he F)];exact G
theorem AW{n g:Nat}{Lq:St->Prop}(f:mq md ops n) :
  ∀ (l:List Oper) (k:Nat) (listed:Array Bool) (s s':St),(∀ j,j<l.length->l[j]?=ops[k+j]?)->k+l.length=n->HeadInv md ops n listed ->
  Region.lexHead md ops g l.length k listed=true->seqV E ops l s=some s'->Lq s' ->
  Fs E md ops n (λa s'=>Region.seqB md ops g n a=true/\Lq s') l.length listed s
 | [],k,listed,s,s',_,hk,_,d,h,hL=>by
  have:k=n:=by simpa using hk
  subst this;simp only[seqV,zda] at h;subst h;exact⟨by simpa [Region.lexHead] using d,hL⟩
 | o::l,k,listed,s,s',hl,hk,inv,d,h,hL=>by
  have h0:ops[k]?=some o:=by simpa using(hl 0 (by simp)).symm
  simp only[zKa,Region.lexHead,zaa] at d;obtain⟨⟨p,m⟩,e⟩:=d;have b:k<n:=by grind
  have c:k∈Region.ready md ops listed:=by simpa using p
  simp only[seqV] at h;obtain⟨v,h1,i⟩:=bind_some_inv h;exact uQ h0 f b (λa s' hL=>seqB_ready hL.1) l.length listed s inv (λj q _=>Region.free_spec h0 m j q) c h1
   (AW f l (k+1) _ _ s' (λj r=>by have:=hl (j+1) (by simp;omega);simpa [zGb,zJc 1 j] using this) (by simp only[zKa] at hk;omega) (inv.set c b) e i hL)
end
section
variable{P:Program}{E:Env}{w0:Root}{ops:Array Oper}
theorem g9(x:EnvOk P E){md:Region.Mode}{n g:Nat}{L:Array Bool->St->Prop}{Q:Exit->Act->World->Prop}{s0:St}{S0:Nat->Nat->Prop}{γ0:Nat->Option Nat}{a0:Act}{w1:World}
  (y:∀ (i j:Nat) (G b:Oper),i≠j->ops[i]?=some G->ops[j]?=some b->∀ d,b.dst=some d->G.dst≠some d)
  (hL:∀ listed s S γ β a w,Rp w0 S γ β s a w->Fm s0 S0 γ0 a0 w1 S γ a w->Sm s0 s->(∀ j b,ops[j]?=some b->listed.getD j true=false->Fr E s γ β b)->L listed s->wpAnyIn (FW ro) nn P md ops Q g listed a w) :
  ∀ (f:Nat) (listed:Array Bool) (s:St) (S:Nat->Nat->Prop) (γ:Nat->Option Nat) (β:Nat->Option (Nat×Nat)) (a:Act) (w:World),Rp w0 S γ β s a w->Fm s0 S0 γ0 a0 w1 S γ a w->Sm s0 s ->
   (∀ j b,ops[j]?=some b->listed.getD j true=false->Fr E s γ β b)->Fs E md ops n L f listed s->wpAnyIn (FW ro) nn P md ops Q (f+g) listed a w
 | 0,listed,s,S,γ,β,a,w,h,r,k,c,t=>by rw[zWa];exact hL _ _ _ _ _ _ _ h r k c t
 | f+1,listed,s,S,γ,β,a,w,h,r,k,c,t=>by
  rw[show f+1+g=(f+g)+1 by omega]
  refine⟨λh0=>absurd h0 t.1,λi A=>?_⟩;obtain⟨_,e⟩:=t.2 i A;have C:=(mem_ready.1 A).1;unfold BS at e;unfold wpOpIn;cases ho:ops[i]? with
  | none=>
   obtain⟨_,o,q,_⟩:=mem_ready.1 A;rw[ho] at q;cases q
  | some o=>
   rw[ho] at e;simp only at e ⊢;obtain⟨v,h1,D⟩:=e;obtain⟨H,I⟩:=zX x h (c i o ho C) h1;have p:=St.put_fields s o.dst v;have l:∀ {γ':Nat->Option Nat} {β':Nat->Option (Nat×Nat)},(∀ id,o.dst≠some (id-s.base)\/id<s.base->γ' id=γ id/\β' id=β id)->∀ j b,ops[j]?=some b->(listed.setIfInBounds i true).getD j true=false->Fr E (s.put o.dst v) γ' β' b:=λhk j b F hu=>by
    by_cases hij:i=j
    ·subst hij;exfalso;rcases zla i listed.size with B|m
     ·simp[Array.getD,B] at hu
     ·simp[Array.getD,m,zEc.2 m] at hu
    ·rw[getD_set_ne true hij] at hu;exact(c j b F hu).keep (λd z=>y i j o b hij ho F d z) p.2.1 (λid _ _=>by rw[p.1]) hk
   split
   ·rename_i hw;refine(bu (H hw) λu w' ⟨S',γ',β',m1,m2,m3⟩=>?_);exact g9 x y hL f _ _ S' γ' β' _ _ m1 (r.trans m2 k.lkS k.lkO) (k.trans (Sm.put s o.dst v)) (l m3) D
   ·rename_i hw;obtain⟨m1,m2⟩:=I (by simpa using hw)
    refine⟨λ_ _=>trivial,?_⟩;exact g9 x y hL f _ _ S γ β _ _ m1 (r.trans m2 k.lkS k.lkO) (k.trans (Sm.put s o.dst v)) (l λid _=>⟨rfl,rfl⟩) D
theorem vm:∀ {l:List Nat},dI l=true->∀ A B x y,l=A++x::B->y∈B->y≠x
 | [],_,A,B,x,y,e,_=>by simp at e
 | a::l,h,A,B,x,y,e,b=>by
  simp only[dI,zaa,zCa] at h;cases A with
  | nil=>
   grind
  | cons a' A=>
   simp only[zqb,List.cons.injEq] at e;exact vm h.2 A B x y e.2 b
def eY{l:List Oper}(h:dI (l.filterMap (·.dst))=true)(A B:List Oper)(o o':Oper)(e:l=A++o::B)(c:o'∈B)(d:Nat)(b:o'.dst=some d):o.dst≠some d:=by
 intro f;subst e;have a:(A++o::B).filterMap (·.dst)=A.filterMap (·.dst)++d::B.filterMap (·.dst):=by
  simp_all
 exact vm h _ _ d d a (zFc.2 ⟨o',c,b⟩) rfl
def ic{l:List Oper}(h:dI (l.filterMap (·.dst))=true){i j:Nat}{a b:Oper}(n:i≠j)(g:l[i]?=some a)(o:l[j]?=some b)(d:Nat)(e:b.dst=some d):a.dst≠some d:=by
 obtain⟨k,m⟩:=zka.1 g;obtain⟨p,q⟩:=zka.1 o;rcases zla i j with r|f
 ·refine eY h (l.take i) (l.drop (i+1)) a b ?_ ?_ d e
  ·grind [List.drop_eq_getElem_cons,List.take_append_drop]
  ·refine z4a (i:=j-(i+1)) ?_;grind
 ·intro c;refine eY h (l.take j) (l.drop (j+1)) b a ?_ ?_ d c e
  ·grind [List.drop_eq_getElem_cons,List.take_append_drop]
  ·refine z4a (i:=i-(j+1)) ?_;grind
theorem ba:∀ (l:List Oper) (i:Nat),(aR i l).map Prod.snd=l
 | [],_=>rfl
 | o::l,i=>by simp only[aR,z9a,ba l (i+1)]
def jx{l:List Oper}{i:Nat}{p:Nat×Oper}(h:p∈aR i l):p.2∈l:=by
 have:p.2∈(aR i l).map Prod.snd:=z9b h
 rwa [ba] at this
theorem gZ:∀ (l:List Oper) (i:Nat),(aR i l).length=l.length
 | [],_=>rfl
 | o::l,i=>by simp only[aR,zKa,gZ l (i+1)]
def F8(W:EnvOk P E){id:Nat}{dr:Bool}{n:Nat}{Q:Exit->Act->World->Prop}{S:Nat->Nat->Prop}{γ:Nat->Option Nat}{β:Nat->Option (Nat×Nat)}{s:St}{a:Act}{w:World}{R:Type}{k:St->Option R}{r:R}{N:Nat}
  (h:Rp w0 S γ β s a w) (hf:E3 E s γ β ops.toList) (hm:cg ops.toList=true) (m:(!dr||rz E ops n)=true) {an:Ann} (J:fj E N R ops an (aR 0 ops.toList) s k=some r)
  (hQ:∀ s' S' γ' β' a' w',Rp w0 S' γ' β' s' a' w'->Fm s S γ a w S' γ' a' w'->Sk s s'->k s'=some r->Q .normal a' w'):(Code.region id ops dr).wpIn (FW ro) nn P Q a w:=by
 simp only[cg,zaa] at hm;obtain⟨⟨z,a1⟩,aj⟩:=hm;have f:(ops.toList.all λo=>match o.op with|.store ..=>o.dst.isNone|_=>true)=true:=aj
 cases dr with
 | false=>
  refine wpIn_region_list ?_;have:=uH (ro:=ro) (nn:=nn) (ops:=ops) W f N R (aR 0 ops.toList) k r an h (by rw[ba];exact hf) (by rw[ba];exact λA B o o' e C d v=>eY z A B o o' e C d v) (λp hp=>jx hp) J hQ
  rwa [ba] at this
 | true=>
  simp only[zkc,zwd,rz,zaa] at m;obtain⟨⟨⟨⟨⟨d0,d1⟩,d2⟩,d3⟩,d4⟩,d5⟩:=m;have hn:n<=ops.size:=by
   simp only[zHb,decide_eq_true_eq,zaa] at d3;rcases d3 with d3|d3
   ·omega
   ·omega
  have hW:mq .any ops n:=by
   intro listed i inv ai al t ht hr;simp only[zHb,decide_eq_true_eq,zaa] at d3;rcases d3 with d3|⟨⟨d3,d6⟩,d7⟩
   ·obtain⟨_,o,C,_⟩:=mem_ready.1 hr;have:=(zga.1 C).1;omega
   ·exact tail_waits d6 d7 d3 inv _ i rfl ai al t ht hr
  obtain⟨s',ax,N',q1,G,q3⟩:=uG N R (aR 0 ops.toList) s k r n an (by rw[gZ,zNb];exact hn) (λp hp=>by
    have q:p.2∈ops.toList.take n:=by
     have:p.2∈((aR 0 ops.toList).take n).map Prod.snd:=z9b hp
     rwa [List.map_take,ba] at this
    exact⟨zma.1 d4 _ q,by simpa using zma.1 d0 _ q⟩) (.inl λp hp c x y e=>by
    have q:p.2∈ops.toList.drop n:=by
     have:p.2∈((aR 0 ops.toList).drop n).map Prod.snd:=z9b hp
     rwa [zjc,ba] at this
    have:=zma.1 d5 _ q;simp only[zaa] at this;have V:=this.2;rw[e] at V;cases V) J
  rw[List.map_take,ba] at q1;refine wpIn_region_any W.mixed ?_;have Y:∃ os d,w.drawn<=d/\({ w with drawn:=w.drawn+1 }:World)=grown w os d:=⟨[],w.drawn+1,zAc _,by simp[grown]⟩
  obtain⟨os,d,m,Y⟩:=Y;obtain⟨g1,g2⟩:=h.grow (os:=os) (d:=d) m (S':=S) (λ_ _ l=>l) (λ_ _ l=>.inl l);rw[Y];have hlen:(ops.toList.take n).length=n:=by simp;omega
  have U:HeadInv .any ops n (Array.replicate ops.size false):=
   ⟨by simp,λj D _ hl=>(by rw[getD_replicate_false] at hl;cases hl),λt _ ht=>getD_in (by simpa using ht) (getD_replicate_false _ _)⟩
  have H:=AW (E:=E) (md:=.any) (g:=ops.size-n) (Lq:=λs=>s=s') hW (ops.toList.take n) 0 (Array.replicate ops.size false) s s' (λj u=>by
   rw[hlen] at u;rw[zBb u,zWa,zBa]) (by rw[hlen,zWa]) U (by rw[hlen];exact d2) q1 rfl
  have I:(ops.toList.drop n).length=ops.size-n:=by simp
  have:=g9 (ro:=ro) (nn:=nn) (Q:=Q) (g:=ops.size-n) W (s0:=s) (S0:=S) (γ0:=γ) (a0:=a) (w1:=grown w os d) (λi j oi D ad Z u d v=>ic z ad (by rw[zBa];exact Z) (by rw[zBa];exact u) d v)
   (λlisted s2 S2 γ2 β2 a2 w2 m1 m2 m3 m4 m5=>by
    obtain⟨m5,m6⟩:=m5;subst m6;have M:=gB (F:=FW ro) (n:=nn) (P:=P) (md:=.any) (ops:=ops) (Q':=Q) (ops.toList.drop n) n listed a2 w2 (λj=>by rw[zmb,zBa]) (by rw[I];exact m5) ?_
    ·rwa [I] at M
    have T:∀ j D,ops[j]?=some D->n<=j->listed.getD j true=false:=by
     intro j D u ak;have key:∀ (g k:Nat) (listed:Array Bool),Region.seqB .any ops g k listed=true->∀ j,k<=j->j<k+g->listed.getD j true=false:=by
      intro g
      induction g with
      | zero=>intro k listed _ j h1 V;omega
      | succ g ih=>
       intro k listed X j h1 V;simp only[Region.seqB,zaa,decide_eq_true_eq] at X;by_cases L:j=k
       ·subst L;have:j∈Region.ready .any ops listed:=by rw[X.1];simp
        exact(mem_ready.1 this).1
       ·have:=ih (k+1) _ X.2 j (by omega) (by omega)
        rwa [getD_set_ne true (Ne.symm L)] at this
     have aI:=(zga.1 u).1;exact key _ _ _ m5 j ak (by omega)
    have O:∀ o∈ops.toList.drop n,Fr E ax γ2 β2 o:=λo C=>by
     obtain⟨i,Z,he⟩:=zQa C;have K:ops[n+i]?=some o:=by
      have:(ops.toList.drop n)[i]?=some o:=by rw[zca Z,he]
      rwa [zmb,zBa] at this
     have:=m4 (n+i) o K (T _ _ K (by omega))
     intro hc d v;obtain⟨r1,r2,r3,r4⟩:=this hc d v;rw[G.base_eq,G.ob];exact⟨r1,r2,r3,r4⟩
    have fin:=uH (ro:=ro) (nn:=nn) (ops:=ops) W (Q:=Q) f N' R ((aR 0 ops.toList).drop n) k r an (m1.wk G) (by rw[zjc,ba];exact O)
     (by
      rw[zjc,ba];intro A B o o' e C d v;exact eY z (ops.toList.take n++A) B o o' (by rw[zIa,<-e,zqa]) C d v)
     (λp hp=>jx (zUb hp)) q3 (λs3 S3 γ3 β3 a3 w3 n1 n2 n3 n4=>by
      refine hQ s3 S3 γ3 β3 a3 w3 n1 ?_ ((m3.trans (Sm.wk G)).sk.trans n3) n4;have f0:Fm s S γ a w S γ a (grown w os d):=⟨λ_ _ l=>l,g2.cell,λ_ _=>rfl,λid hid b l=>⟨l,.inl (cT (h.γn id b l).2)⟩,by simp,λ_ _ l=>l,kY.same rfl dq.grown⟩
      exact(f0.trans m2 rfl rfl).trans n2 (G.lkS.trans m3.lkS) (G.lkO.trans m3.lkO))
    rwa [zjc,ba] at fin)
   (ops.toList.take n).length (Array.replicate ops.size false) s S γ β a (grown w os d) g1 (Fm.refl _ _ _ _ _) (Sm.refl s) (λj D u _=>hf D (zVb.2 (zec u))) H
  rw[hlen,show n+(ops.size-n)=ops.size by omega] at this
  exact this
end
end Sy
end
noncomputable section
namespace Sy
open Go
mutual
theorem tY:∀ (a a':AV),AV.same a a'=true->a=a'
 | .ptr t id p,a',h=>by
  cases a'<;>simp only[AV.same,zaa,decide_eq_true_eq] at h<;>first|(cases h;done)|skip
  grind [Ty.eq_of_beq]
 | .mem t id,a',h=>by
  cases a'<;>simp only[AV.same,zaa,decide_eq_true_eq] at h<;>first|(cases h;done)|skip
  grind [Ty.eq_of_beq]
 | .clo f l,a',h=>by
  cases a'<;>simp only[AV.same,zaa,decide_eq_true_eq] at h<;>first|(cases h;done)|skip
  obtain⟨rfl,h1⟩:=h;rw[BL _ _ h1]
 | .map kt vt id,a',h=>by
  cases a'<;>simp only[AV.same,zaa,decide_eq_true_eq] at h<;>first|(cases h;done)|skip
  grind [Ty.eq_of_beq]
 | .yld id,a',h=>by
  cases a'<;>simp only[AV.same,decide_eq_true_eq] at h<;>first|(cases h;done)|skip
  subst h;rfl
 | .d ..,a',h=>by simp[AV.same] at h
 | .own ..,a',h=>by simp[AV.same] at h
 | .nils,a',h=>by simp[AV.same] at h
 | .fptr ..,a',h=>by simp[AV.same] at h
 | .st ..,a',h=>by simp[AV.same] at h
 | .undef,a',h=>by simp[AV.same] at h
theorem BL:∀ (l l':List AV),AV.sames l l'=true->l=l'
 | [],l',h=>by grind [AV.sames]
 | a::l,l',h=>by
  cases l' with
  | nil=>simp[AV.sames] at h
  | cons a' l'=>
   simp only[AV.sames,zaa] at h;rw[tY _ _ h.1,BL _ _ h.2]
end
structure Two(n:Nat)(c c':Cx):Prop where
 w:c'.w=c.w
 S:c'.S=c.S
 γ:∀ id,id<n->c'.γ id=c.γ id
 ob:∀ id,id<n->∀ o',c'.ob id=some o'->∃ o,c.ob id=some o/\(∀ p,fg o' p=fg o p/\cC o' p=cC o p)/\(∀ t l,o=.many t l->∃ l',o'=.many t l'/\l'.length=l.length)/\∀ kt vt l,o=.mp kt vt l->∃ l',o'=.mp kt vt l'
mutual
theorem IA{n:Nat}{c c':Cx}(h:Two n c c'):∀ (a:AV) (cs:List Value),AV.old n a=true->AC c a cs->AC c' a cs
 | .ptr t id p,cs,ho,k=>by
  simp only[AV.old,decide_eq_true_eq] at ho;simp only[AC] at k ⊢;obtain⟨b,off,rfl,k1,k2⟩:=k;refine⟨b,off,rfl,by rw[h.γ id ho];exact k1,λo' ho'=>?_⟩
  obtain⟨o,h1,h2,_⟩:=h.ob id ho o' ho'
  simp_all
 | .mem t id,cs,ho,k=>by
  simp only[AV.old,decide_eq_true_eq] at ho;simp only[AC] at k ⊢;obtain⟨k0,b,k1,k2⟩:=k;refine⟨k0,b,by rw[h.γ id ho];exact k1,λo' ho'=>?_⟩
  obtain⟨o,h1,_,h3,_⟩:=h.ob id ho o' ho';grind
 | .map kt vt id,cs,ho,k=>by
  simp only[AV.old,decide_eq_true_eq] at ho;simp only[AC] at k ⊢;obtain⟨b,e,k1,k2,k3,k4⟩:=k;refine⟨b,e,by rw[h.γ id ho];exact k1,k2,k3,λo' ho'=>?_⟩
  obtain⟨o,h1,_,_,h3⟩:=h.ob id ho o' ho';grind
 | .yld id,cs,ho,k=>by
  simp only[AV.old,decide_eq_true_eq] at ho;simp only[AC] at k ⊢;obtain⟨L,rfl,k1⟩:=k;exact⟨L,rfl,by rw[h.γ id ho];exact k1⟩
 | .clo f l,cs,ho,k=>by
  simp only[AV.old] at ho;simp only[AC] at k ⊢;obtain⟨caps,rfl,k1⟩:=k;exact⟨caps,rfl,Ey h l caps ho k1⟩
 | .d ..,_,ho,_=>by simp[AV.old] at ho
 | .own ..,_,ho,_=>by simp[AV.old] at ho
 | .nils,_,ho,_=>by simp[AV.old] at ho
 | .fptr ..,_,ho,_=>by simp[AV.old] at ho
 | .st ..,_,ho,_=>by simp[AV.old] at ho
 | .undef,_,ho,_=>by simp[AV.old] at ho
theorem Ey{n:Nat}{c c':Cx}(h:Two n c c'):∀ (l:List AV) (cs:List Value),AV.olds n l=true->og c l cs->og c' l cs
 | [],cs,_,k=>by simpa only[og] using k
 | a::l,cs,ho,k=>by
  simp only[AV.olds,zaa] at ho;simp only[og] at k ⊢;obtain⟨v,c2,rfl,k1,k2⟩:=k;exact⟨v,c2,rfl,IA h a _ ho.1 k1,Ey h l c2 ho.2 k2⟩
end
mutual
def Sh.tkp:Sh->AV->Nat->List (Nat×Nat)
 | .ow _,.own _ v _,j=>[(j,v)]
 | .st _ l,.st _ l',j=>Sh.tkps l l' j
 | _,_,_=>[]
def Sh.tkps:List Sh->List AV->Nat->List (Nat×Nat)
 | h::l,a::l',j=>Sh.tkp h a j++Sh.tkps l l' (j+h.cnt)
 | _,_,_=>[]
end
mutual
theorem zW:∀ (h:Sh) (a:AV) (j:Nat),(Sh.tkp h a j).map Prod.snd=Sh.toks h a
 | .ow _,a,j=>by cases a<;>rfl
 | .st _ l,a,j=>by cases a<;>first|rfl|exact BZ l _ j
 | .dv _,a,j=>by cases a<;>rfl
 | .same _,a,j=>by cases a<;>rfl
theorem BZ:∀ (l:List Sh) (l':List AV) (j:Nat),(Sh.tkps l l' j).map Prod.snd=Sh.tokss l l'
 | [],l',j=>by cases l'<;>rfl
 | h::l,[],j=>rfl
 | h::l,a::l',j=>by
  simp only[Sh.tkps,Sh.tokss,zMb,zW h a j,BZ l l' _]
end
def Pl(l:List (Nat×Nat))(i j:Nat):Prop:=(∀ p∈l,i<=p.1/\p.1<j)/\∀ p∈l,∀ q∈l,p.1=q.1->p=q
def Pl.nil(i j:Nat):Pl [] i j:=⟨λp h=>(by cases h),λp h=>(by cases h)⟩
def Pl.append{l l':List (Nat×Nat)}{i j k:Nat}(h:Pl l i j)(a:Pl l' j k)(h1:i<=j)(b:j<=k):Pl (l++l') i k:=by
 refine⟨λp hp=>?_,λp hp q hq e=>?_⟩
 ·rcases List.mem_append.1 hp with hp|hp
  ·have:=h.1 p hp;omega
  ·have:=a.1 p hp;omega
 ·rcases List.mem_append.1 hp with hp|hp<;>rcases List.mem_append.1 hq with hq|hq
  ·exact h.2 p hp q hq e
  ·have:=h.1 p hp;have:=a.1 q hq;omega
  ·have:=a.1 p hp;have:=h.1 q hq;omega
  ·exact a.2 p hp q hq e
mutual
theorem Dn:∀ (h:Sh) (a:AV) (j:Nat),Pl (Sh.tkp h a j) j (j+h.cnt)
 | .ow _,a,j=>by
  cases a<;>first
   | exact Pl.nil _ _
   | exact⟨λp hp=>by simp[Sh.tkp] at hp;subst hp;simp[Sh.cnt],λp hp q hq _=>by simp[Sh.tkp] at hp hq;rw[hp,hq]⟩
 | .st _ l,a,j=>by
  cases a<;>first
   | exact Pl.nil _ _
   | (simp only[Sh.tkp,Sh.cnt];exact ET l _ j)
 | .dv _,a,j=>by cases a<;>exact Pl.nil _ _
 | .same _,a,j=>by cases a<;>exact Pl.nil _ _
theorem ET:∀ (l:List Sh) (l':List AV) (j:Nat),Pl (Sh.tkps l l' j) j (j+Sh.cnts l)
 | [],l',j=>by cases l'<;>exact Pl.nil _ _
 | h::l,[],j=>Pl.nil _ _
 | h::l,a::l',j=>by
  simp only[Sh.tkps,Sh.cnts];rw[show j+(h.cnt+Sh.cnts l)=j+h.cnt+Sh.cnts l by omega]
  exact(Dn h a j).append (ET l l' _) (by omega) (by omega)
end
mutual
theorem nu{ob:Nat->Option Ob}{dead:List Nat}:∀ (h:Sh) (a:AV) (x:List D),Sh.dec ob dead h a=some x->x.length=h.cnt
 | .dv t,a,x,e=>by
  have e':((AV.toD ob t a).bind λx=>some [x])=some x:=by cases a<;>exact e
  obtain⟨y,_,h2⟩:=bind_some_inv e';simp only[zda] at h2;subst h2;rfl
 | .ow t,a,x,e=>by
  cases a<;>simp only[Sh.dec] at e<;>first|(cases e;done)|skip
  ·split at e<;>first|(cases e;done)|skip
   simp only[zda] at e;subst e;rfl
  ·simp only[zda] at e;subst e;rfl
 | .same b,a,x,e=>by
  have e':(if AV.same b a then some ([]:List D) else none)=some x:=by cases a<;>exact e
  split at e'<;>first|(cases e';done)|skip
  simp only[zda] at e';subst e';rfl
 | .st ts l,a,x,e=>by
  cases a<;>simp only[Sh.dec] at e<;>first|(cases e;done)|skip
  split at e<;>first|(cases e;done)|skip
  exact AG l _ x e
theorem AG{ob:Nat->Option Ob}{dead:List Nat}:∀ (l:List Sh) (l':List AV) (x:List D),Sh.decs ob dead l l'=some x->x.length=Sh.cnts l
 | [],l',x,e=>by
  cases l'<;>simp only[Sh.decs] at e<;>first|(cases e;done)|skip
  simp only[zda] at e;subst e;rfl
 | h::l,[],x,e=>by simp[Sh.decs] at e
 | h::l,a::l',x,e=>by
  simp only[Sh.decs] at e;obtain⟨y,h1,e⟩:=bind_some_inv e;obtain⟨z,h2,e⟩:=bind_some_inv e;simp only[zda] at e;subst e;simp only[zua,nu h a y h1,AG l l' z h2,Sh.cnts]
end
mutual
theorem rp{ob:Nat->Option Ob}{dead:List Nat}:∀ (h:Sh) (a:AV) (x:List D),Sh.dec ob dead h a=some x->∀ v∈Sh.toks h a,v ∉ dead
 | .dv t,a,x,e=>by simp_all [Sh.toks]
 | .ow t,a,x,e=>by
  intro v hv;cases a<;>simp only[Sh.toks,zgc,zDa] at hv;subst hv;simp only[Sh.dec] at e
  simp_all
 | .same b,a,x,e=>by simp_all [Sh.toks]
 | .st ts l,a,x,e=>by
  intro v hv;cases a<;>simp only[Sh.toks,zgc] at hv;simp only[Sh.dec] at e;split at e<;>first|(cases e;done)|skip
  exact ux l _ x e v hv
theorem ux{ob:Nat->Option Ob}{dead:List Nat}:∀ (l:List Sh) (l':List AV) (x:List D),Sh.decs ob dead l l'=some x->∀ v∈Sh.tokss l l',v ∉ dead
 | [],l',x,e=>by simp_all [Sh.tokss]
 | h::l,[],x,e=>by simp[Sh.decs] at e
 | h::l,a::l',x,e=>by
  intro v hv;simp only[Sh.decs] at e;obtain⟨y,h1,e⟩:=bind_some_inv e;obtain⟨z,h2,e⟩:=bind_some_inv e;simp only[Sh.tokss] at hv;rcases List.mem_append.1 hv with hv|hv
  ·exact rp h a y h1 v hv
  ·exact ux l l' z h2 v hv
end
mutual
theorem rR(b:Nat):∀ (h:Sh) (j:Nat) (s:List D),(Sh.mk b h j s).2=j+h.cnt
 | .dv t,j,s=>rfl
 | .ow t,j,s=>rfl
 | .same a,j,s=>rfl
 | .st ts l,j,s=>by simp only[Sh.mk,Sh.cnt];exact Ep b l j s
theorem Ep(b:Nat):∀ (l:List Sh) (j:Nat) (s:List D),(Sh.mks b l j s).2=j+Sh.cnts l
 | [],j,s=>rfl
 | h::l,j,s=>by simp only[Sh.mks,Sh.cnts,rR b h j s,Ep b l,zGb]
end
mutual
theorem Eo(b:Nat):∀ (h:Sh) (t:Ty) (j:Nat) (s:List D),Sh.fits t h=true->AV.fits t (Sh.mk b h j s).1=true
 | .dv t',t,j,s,h=>by
  have h':t.beq t'=true:=by cases t<;>exact h
  rw[Ty.eq_of_beq _ _ h'];exact bT _ _
 | .ow e,t,j,s,h=>by
  have h':t.beq (.sl e)=true:=by cases t<;>exact h
  rw[Ty.eq_of_beq _ _ h'];simp only[Sh.mk,AV.fits];exact Ty.beq_refl' _
 | .same a,t,j,s,h=>by cases t<;>simp[Sh.fits] at h
 | .st ts l,t,j,s,h=>by
  have h':(t.beq (.st ts)&&Sh.fitss ts l)=true:=by cases t<;>exact h
  simp only[zaa] at h';rw[Ty.eq_of_beq _ _ h'.1];simp only[Sh.mk,AV.fits,zaa];have:=Ty.beq_refl' (.st ts);simp only[Ty.beq] at this;exact⟨this,vf b l ts j s h'.2⟩
theorem vf(b:Nat):∀ (l:List Sh) (ts:List Ty) (j:Nat) (s:List D),Sh.fitss ts l=true->AV.fitss ts (Sh.mks b l j s).1=true
 | [],ts,j,s,h=>by cases ts<;>simp only[Sh.fitss] at h<;>first|(cases h;done)|rfl
 | h::l,[],j,s,e=>by simp[Sh.fitss] at e
 | h::l,t::ts,j,s,e=>by
  simp only[Sh.fitss,zaa] at e;simp only[Sh.mks,AV.fitss,zaa];exact⟨Eo b h t j s e.1,vf b l ts _ s e.2⟩
end
def DG(s x:List D)(j:Nat):Prop:=∀ i,i<x.length->s[j+i]?=x[i]?
def DG.left{s x y:List D}{j:Nat}(h:DG s (x++y) j):DG s x j:=λi a=>by
 rw[h i (by simp;omega),zkb a]
def DG.right{s x y:List D}{j:Nat}(h:DG s (x++y) j):DG s y (j+x.length):=λi a=>by
 rw[zGb,h (x.length+i) (by simp;omega),zEb (by omega),zFb]
mutual
theorem Bh{n b:Nat}{c c':Cx}(T:Two n c c'):∀ (h:Sh) (a:AV) (j:Nat) (s x:List D) (cs:List Value),Sh.dec c.ob c.dead h a=some x->DG s x j->Sh.fine n h=true ->
  (∀ p∈Sh.tkp h a j,c'.β (b+p.1)=c.β p.2)->AC c a cs->AC c' (Sh.mk b h j s).1 cs
 | .dv t,a,j,s,x,cs,e,hs,hf,hb,k=>by
  have e':((AV.toD c.ob t a).bind λx=>some [x])=some x:=by cases a<;>exact e
  obtain⟨y,h1,h2⟩:=bind_some_inv e';simp only[zda] at h2;subst h2;obtain⟨k1,k2,_⟩:=sj _ _ _ _ h1 k;have hj:s[j]?=some y:=by have:=hs 0 (by simp);simpa using this
  simp only[Sh.mk,AC,List.getD,hj,zOb,T.w,T.S];exact⟨k1,hf,k2⟩
 | .ow t,a,j,s,x,cs,e,hs,hf,hb,k=>by
  cases a<;>simp only[Sh.dec] at e<;>first|(cases e;done)|skip
  ·rename_i t' v l;split at e<;>first|(cases e;done)|skip
   rename_i hd;simp only[zaa,zCa] at hd;simp only[zda] at e;subst e;have hj:s[j]?=some (.sl l):=by have:=hs 0 (by simp);simpa using this
   have he:=Ty.eq_of_beq _ _ hd.1;subst he;simp only[AC] at k;obtain⟨k0,k1,ad,cap,rfl,k2,k3⟩:=k;simp only[Sh.mk,AC,List.getD,hj,zOb,D.els,T.w,T.S];refine⟨k0,k1,ad,cap,rfl,k2,λ_=>?_⟩;rcases k3 (by simpa using hd.2) with h3|⟨bb,off,h3,h4,m,h5,h6⟩
   ·exact .inl h3
   ·refine .inr ⟨bb,off,h3,?_,m,by rw[T.w];exact h5,h6⟩
    have:=hb (j,v) (by simp[Sh.tkp])
    rw[<-h4];exact this
  ·simp only[zda] at e;subst e;have hj:s[j]?=some (.sl []):=by have:=hs 0 (by simp);simpa using this
   simp only[AC] at k;subst k;simp only[Sh.mk,AC,List.getD,hj,zOb,D.els];refine⟨hf,λx hx=>(by cases hx),none,0,rfl,?_,λ_=>.inl ⟨rfl,rfl⟩⟩
   exact CR.of_elems (b:=0) (off:=0) (.inl rfl) (zja _) ⟨[],df.nil,λi c hc=>by simp at hc⟩
 | .same a',a,j,s,x,cs,e,hs,hf,hb,k=>by
  have e':(if AV.same a' a then some ([]:List D) else none)=some x:=by cases a<;>exact e
  split at e'<;>first|(cases e';done)|skip
  rename_i hsm;have:=tY _ _ hsm;subst this;simp only[Sh.fine] at hf;exact IA T _ _ hf k
 | .st ts l,a,j,s,x,cs,e,hs,hf,hb,k=>by
  cases a<;>simp only[Sh.dec] at e<;>first|(cases e;done)|skip
  rename_i ts' l';split at e<;>first|(cases e;done)|skip
  simp only[Sh.fine,zaa] at hf;simp only[AC] at k;simp only[Sh.mk,AC];exact⟨hf.1.1,vf b l ts j s hf.1.2,Ip T l l' j s x cs e hs hf.2 hb k.2.2⟩
theorem Ip{n b:Nat}{c c':Cx}(T:Two n c c'):∀ (l:List Sh) (l':List AV) (j:Nat) (s x:List D) (cs:List Value),Sh.decs c.ob c.dead l l'=some x->DG s x j->Sh.fines n l=true ->
  (∀ p∈Sh.tkps l l' j,c'.β (b+p.1)=c.β p.2)->k9 c l' cs->k9 c' (Sh.mks b l j s).1 cs
 | [],l',j,s,x,cs,e,_,_,_,k=>by
  all_goals grind [Sh.decs,Sh.mks,k9]
 | h::l,[],j,s,x,cs,e,_,_,_,k=>by simp[Sh.decs] at e
 | h::l,a::l',j,s,x,cs,e,hs,hf,hb,k=>by
  simp only[Sh.decs] at e;obtain⟨y,h1,e⟩:=bind_some_inv e;obtain⟨z,h2,e⟩:=bind_some_inv e;simp only[zda] at e;subst e;simp only[Sh.fines,zaa] at hf;simp only[k9] at k;obtain⟨c1,c2,rfl,k1,k2⟩:=k;simp only[Sh.mks,k9,rR];simp only[Sh.tkps,List.mem_append] at hb;have hr:=hs.right;rw[nu h a y h1] at hr;exact⟨c1,c2,rfl,Bh T h a j s y c1 h1 hs.left hf.1 (λp hp=>hb p (.inl hp)) k1,Ip T l l' _ s z c2 h2 hr hf.2 (λp hp=>hb p (.inr hp)) k2⟩
end
def Rd{n b:Nat}{c c':Cx}(T:Two n c c')(h:Sh)(a:AV)(j:Nat)(s x:List D)(v:Value)(e:Sh.dec c.ob c.dead h a=some x)(g:DG s x j)(d:Sh.fine n h=true)
  (i:∀ p∈Sh.tkp h a j,c'.β (b+p.1)=c.β p.2) (k:AR c a v):AR c' (Sh.mk b h j s).1 v:=by
 cases h with
 | dv t=>
  have f:((AV.toD c.ob t a).bind λx=>some [x])=some x:=by cases a<;>exact e
  obtain⟨y,h1,o⟩:=bind_some_inv f;simp only[zda] at o;subst o;have q:s[j]?=some y:=by have:=g 0 (by simp);simpa using this
  obtain⟨r,u⟩:=oG d k h1;simp only[Sh.mk,List.getD,q,zOb];exact dT d r (by rw[T.w,T.S];exact u)
 | ow t=>
  have key:=λcs=>Bh T (.ow t) a j s x cs e g d i;cases a<;>simp only[Sh.dec] at e<;>first|(cases e;done)|skip
  all_goals
   simp only[AR] at k;exact⟨k.1,key _ k.2⟩
 | same a'=>
  have key:=λcs=>Bh T (.same a') a j s x cs e g d i;have f:(if AV.same a' a then some ([]:List D) else none)=some x:=by cases a<;>exact e
  split at f<;>first|(cases f;done)|skip
  rename_i m;have:=tY _ _ m;subst this;simp only[Sh.mk] at key ⊢;cases a'<;>simp only[Sh.fine,AV.old] at d<;>first|(cases d;done)|skip
  all_goals simp_all [AR]
 | st z l=>
  have key:=λcs=>Bh T (.st z l) a j s x cs e g d i;cases a<;>simp only[Sh.dec] at e<;>first|(cases e;done)|skip
  simp_all [Sh.mk,AR]
end Sy
end
noncomputable section
namespace Sy
open Go
def NT(s:St):List (Nat×Sh)->Nat->List (Nat×Nat)
 | [],_=>[]
 | (t,h)::l,j=>Sh.tkp h (s.tm t) j++NT s l (j+h.cnt)
def Jh(h:Sh)(o:Option Ob)(j:Nat):List (Nat×Nat):=match o with|some (.one _ v)=>Sh.tkp h v j|_=>[]
def vS(s:St):List (Nat×ShO)->Nat->List (Nat×Nat)
 | [],_=>[]
 | (id,.one _ h)::l,j=>Jh h (s.ob id) j++vS s l (j+h.cnt)
 | (_,.many _)::l,j=>vS s l (j+1)
 | (_,.mp ..)::l,j=>vS s l (j+1)
 | (_,.keep ..)::l,j=>vS s l j
 | (_,.lp ..)::l,j=>vS s l j
 | (_,.fv _)::l,j=>vS s l j
theorem zV(s:St):∀ (l:List (Nat×Sh)) (j:Nat),(NT s l j).map Prod.snd=Shape.toksS s l
 | [],_=>rfl
 | (t,h)::l,j=>by simp only[NT,Shape.toksS,zMb,zW,zV s l]
theorem j4(s:St):∀ (l:List (Nat×ShO)) (j:Nat),(vS s l j).map Prod.snd=Shape.toksO s l
 | [],_=>rfl
 | (id,.one t h)::l,j=>by
  simp only[vS,Shape.toksO,zMb,j4 s l];congr 1;unfold Jh;split
  ·rename_i e;simp only[zW,e]
  ·simp_all
 | (_,.many _)::l,j=>by simp only[vS,Shape.toksO,j4 s l]
 | (_,.mp ..)::l,j=>by simp only[vS,Shape.toksO,j4 s l]
 | (_,.keep ..)::l,j=>by simp only[vS,Shape.toksO,j4 s l]
 | (_,.lp ..)::l,j=>by simp only[vS,Shape.toksO,j4 s l]
 | (_,.fv _)::l,j=>by simp only[vS,Shape.toksO,j4 s l]
theorem Ji(s:St):∀ (l:List (Nat×Sh)) (j:Nat),Pl (NT s l j) j (j+Shape.cntS l)
 | [],_=>Pl.nil _ _
 | (t,h)::l,j=>by
  simp only[NT,Shape.cntS];rw[show j+(h.cnt+Shape.cntS l)=j+h.cnt+Shape.cntS l by omega]
  exact(Dn h _ j).append (Ji s l _) (by omega) (by omega)
def M7(h:Sh)(o:Option Ob)(j:Nat):Pl (Jh h o j) j (j+h.cnt):=by
 unfold Jh;split
 ·exact Dn h _ j
 ·exact Pl.nil _ _
theorem pe(s:St):∀ (l:List (Nat×ShO)) (j:Nat),Pl (vS s l j) j (j+Shape.cntO l)
 | [],_=>Pl.nil _ _
 | (id,.one t h)::l,j=>by
  simp only[vS,Shape.cntO,ShO.cnt];rw[show j+(h.cnt+Shape.cntO l)=j+h.cnt+Shape.cntO l by omega]
  exact(M7 h _ j).append (pe s l _) (by omega) (by omega)
 | (_,.many _)::l,j=>by
  simp only[vS,Shape.cntO,ShO.cnt];rw[show j+(1+Shape.cntO l)=j+1+Shape.cntO l by omega]
  exact(Pl.nil j (j+1)).append (pe s l _) (by omega) (by omega)
 | (_,.mp ..)::l,j=>by
  simp only[vS,Shape.cntO,ShO.cnt];rw[show j+(1+Shape.cntO l)=j+1+Shape.cntO l by omega]
  exact(Pl.nil j (j+1)).append (pe s l _) (by omega) (by omega)
 | (_,.keep ..)::l,j=>by
  simp only[vS,Shape.cntO,ShO.cnt,zWa];exact pe s l j
 | (_,.fv _)::l,j=>by
  simp only[vS,Shape.cntO,ShO.cnt,zWa];exact pe s l j
 | (_,.lp ..)::l,j=>by
  simp only[vS,Shape.cntO,ShO.cnt,zWa];exact pe s l j
theorem AF(s:St):∀ (l:List (Nat×Sh)) (x:List D),Shape.decS s l=some x->x.length=Shape.cntS l
 | [],x,e=>by simp only[Shape.decS,zda] at e;subst e;rfl
 | (t,h)::l,x,e=>by
  simp only[Shape.decS] at e;obtain⟨y,h1,e⟩:=bind_some_inv e;obtain⟨z,a,e⟩:=bind_some_inv e;simp only[zda] at e;subst e;simp only[zua,nu h _ y h1,AF s l z a,Shape.cntS]
theorem uw(s:St):∀ (l:List (Nat×Sh)) (x:List D),Shape.decS s l=some x->∀ v∈Shape.toksS s l,v ∉ s.dead
 | [],x,_=>by simp_all [Shape.toksS]
 | (t,h)::l,x,e=>by
  intro v a;simp only[Shape.decS] at e;obtain⟨y,h1,e⟩:=bind_some_inv e;obtain⟨z,b,e⟩:=bind_some_inv e;simp only[Shape.toksS] at a;rcases List.mem_append.1 a with a|a
  ·exact rp h _ y h1 v a
  ·exact uw s l z b v a
def uu{s:St}{id:Nat}{t:Ty}{h:Sh}{l:List (Nat×ShO)}{x:List D}(e:Shape.decO s ((id,.one t h)::l)=some x):∃ v y z,s.ob id=some (.one t v)/\Sh.dec s.ob s.dead h v=some y/\Shape.decO s l=some z/\x=y++z:=by
 simp only[Shape.decO] at e;split at e<;>first|(cases e;done)|skip
 rename_i d v b;split at e<;>first|(cases e;done)|skip
 rename_i c;obtain⟨y,h1,e⟩:=bind_some_inv e;obtain⟨z,a,e⟩:=bind_some_inv e;grind [Option.some.injEq,Ty.eq_of_beq]
def rn{s:St}{id:Nat}{t:Ty}{l:List (Nat×ShO)}{x:List D}(e:Shape.decO s ((id,.many t)::l)=some x):∃ v z,s.ob id=some (.many t v)/\Shape.decO s l=some z/\x=[.sl v]++z:=by
 simp only[Shape.decO] at e;split at e<;>first|(cases e;done)|skip
 rename_i d v b;split at e<;>first|(cases e;done)|skip
 rename_i c;obtain⟨z,a,e⟩:=bind_some_inv e;grind [Option.some.injEq,Ty.eq_of_beq]
def yQ{s:St}{id:Nat}{c vt:Ty}{l:List (Nat×ShO)}{x:List D}(e:Shape.decO s ((id,.mp c vt)::l)=some x):∃ v z,s.ob id=some (.mp c vt v)/\Shape.decO s l=some z/\x=[.sl v]++z:=by
 simp only[Shape.decO] at e;split at e<;>first|(cases e;done)|skip
 rename_i f g v b;split at e<;>first|(cases e;done)|skip
 rename_i a;obtain⟨z,d,e⟩:=bind_some_inv e;simp only[zda] at e;simp only[zaa] at a;rw[<-Ty.eq_of_beq _ _ a.1,<-Ty.eq_of_beq _ _ a.2] at b;exact⟨v,z,b,d,e.symm⟩
def rm{s:St}{id:Nat}{t:Ty}{a:Nat}{l:List (Nat×ShO)}{x:List D}(e:Shape.decO s ((id,.keep t a)::l)=some x):∃ v,s.ob id=some (.one t v)/\Shape.decO s l=some x:=by
 grind [Shape.decO,Ty.eq_of_beq]
theorem FT:∀ {p a:Option Ex},C2 p a=true->p=a
 | none,none,_=>rfl
 | none,some _,h=>by cases h
 | some _,none,h=>by cases h
 | some e,some b,h=>by
  simp only[C2] at h;cases e<;>cases b<;>simp only[Ex.is,decide_eq_true_eq] at h<;>first|rfl|(cases h;done)|(subst h;rfl)
def yP{s:St}{id:Nat}{p:Option Ex}{a:Nat}{l:List (Nat×ShO)}{x:List D}(e:Shape.decO s ((id,.lp p a)::l)=some x):∃ i,s.ob id=some (.lp i p)/\Shape.decO s l=some x:=by
 grind [Shape.decO,FT]
def yO{s:St}{id:Nat}{a:AV}{l:List (Nat×ShO)}{x:List D}(e:Shape.decO s ((id,.fv a)::l)=some x):s.ob id=some (.fv a)/\Shape.decO s l=some x:=by
 simp only[Shape.decO] at e;split at e<;>first|(cases e;done)|skip
 split at e<;>first|(cases e;done)|skip
 rename_i h1 b;rw[tY _ _ b];exact⟨h1,e⟩
theorem wV{n:Nat}{c c':Cx}(T:Two n c c'):∀ {l:List AV} {vs:List Value},AV.olds n l=true->oh c l vs->oh c' l vs
 | [],[],_,_=>trivial
 | [],_::_,_,k=>k.elim
 | _::_,[],_,k=>k.elim
 | a::l,v::vs,h,k=>by
  simp only[AV.olds,zaa] at h;refine⟨?_,wV T h.2 k.2⟩;have d:=k.1;unfold t8 at d ⊢;split at d
  ·obtain⟨b,e,f⟩:=d;simp only[AV.old,decide_eq_true_eq] at h;exact⟨b,e,(T.γ _ h.1).trans f⟩
  ·exact d.elim
theorem fQ.old{n:Nat}{c c':Cx}(T:Two n c c'){a:AV}{v:Value}(h:AV.old n a=true)(i:lZ a=true)(k:fQ c a v):fQ c' a v:=by
 cases a<;>simp only[lZ] at i<;>first|(cases i;done)|skip
 all_goals simp only[AV.old] at h
 case clo f l=>
  obtain⟨caps,e,k⟩:=k;exact⟨caps,e,wV T h k⟩
 case map kt vt id=>
  obtain⟨b,e,d,g⟩:=k;exact⟨b,e,(T.γ id (of_decide_eq_true h)).trans d,g⟩
 case yld id=>
  simp only[fQ,AR,AC] at k ⊢;obtain⟨d,L,e,g⟩:=k;exact⟨d,L,e,(T.γ id (of_decide_eq_true h)).trans g⟩
def Mo{a b:AV}:(∀ p,fg (.fv a) p=fg (.fv b) p/\cC (.fv a) p=cC (.fv b) p):=λp=>by cases p<;>exact⟨rfl,rfl⟩
def xD{p:Option Ex}{o:Option Ob}{o':Ob}(h:Ob.lpOf p o=some o'):∃ i a,o=some (.lp i a)/\o'=.lp i p:=by
 unfold Ob.lpOf at h;grind
theorem fS(s:St):∀ (l:List (Nat×ShO)) (x:List D),Shape.decO s l=some x->∀ v∈Shape.toksO s l,v ∉ s.dead
 | [],x,_=>by simp_all [Shape.toksO]
 | (id,.one t h)::l,x,e=>by
  intro v b;obtain⟨u,y,z,d,h1,a,_⟩:=uu e;simp only[Shape.toksO,d] at b;rcases List.mem_append.1 b with b|b
  ·exact rp h _ y h1 v b
  ·exact fS s l z a v b
 | (id,.many t)::l,x,e=>by
  obtain⟨u,z,_,a,_⟩:=rn e;exact fS s l z a
 | (id,.mp f vt)::l,x,e=>by
  obtain⟨u,z,_,a,_⟩:=yQ e;exact fS s l z a
 | (id,.keep t c)::l,x,e=>by
  obtain⟨u,_,a⟩:=rm e;exact fS s l x a
 | (id,.lp p c)::l,x,e=>by
  obtain⟨_,_,a⟩:=yP e;exact fS s l x a
 | (id,.fv v)::l,x,e=>by
  obtain⟨_,a⟩:=yO e;exact fS s l x a
theorem En(b:Nat):∀ (l:List (Nat×Sh)) (j:Nat) (s:List D) (f:Nat->AV),(Shape.mkS b l j s f).2=j+Shape.cntS l
 | [],j,s,f=>rfl
 | (t,h)::l,j,s,f=>by simp only[Shape.mkS,En b l,rR,Shape.cntS,zGb]
theorem Io{n b:Nat}{c c':Cx}(T:Two n c c'){s':St}(k:c.ob=s'.ob)(m:c.dead=s'.dead):∀ (l:List (Nat×Sh)) (j:Nat) (s x:List D) (f:Nat->AV),Shape.decS s' l=some x->DG s x j->(∀ p∈l,Sh.fine n p.2=true) ->
  (∀ p∈NT s' l j,c'.β (b+p.1)=c.β p.2)->∀ i,(i∈l.map (·.1)/\∀ v,AR c (s'.tm i) v->AR c' ((Shape.mkS b l j s f).1 i) v)\/(i ∉ l.map (·.1)/\(Shape.mkS b l j s f).1 i=f i)
 | [],j,s,x,f,e,g,d,a,i=>.inr ⟨by simp,rfl⟩
 | (t,h)::l,j,s,x,f,e,g,d,a,i=>by
  simp only[Shape.decS] at e;obtain⟨y,h1,e⟩:=bind_some_inv e;obtain⟨z,r,e⟩:=bind_some_inv e;simp only[zda] at e;subst e;simp only[NT,List.mem_append] at a;have o:=g.right;rw[nu h _ y h1] at o;simp only[Shape.mkS,rR];rcases Io T k m l (j+h.cnt) s z (λi=>if i=t then(Sh.mk b h j s).1 else f i) r o (λp hp=>d p (by simp[hp])) (λp hp=>a p (.inr hp)) i with⟨w,q⟩|⟨w,q⟩
  ·simp_all
  ·by_cases hit:i=t
   ·subst hit;refine .inl ⟨by simp,λv u=>?_⟩
    rw[q,if_pos rfl];exact Rd T h _ j s y v (by rw[k,m];exact h1) g.left (d (i,h) (by simp)) (λp hp=>a p (.inl hp)) u
   ·simp_all
def Oc(o' o:Ob):Prop:=(∀ p,fg o' p=fg o p/\cC o' p=cC o p)/\(∀ t l,o=.many t l->∃ l',o'=.many t l'/\l'.length=l.length)/\∀ a vt l,o=.mp a vt l->∃ l',o'=.mp a vt l'
def Ba{t:Ty}{a b:AV}:Oc (.one t a) (.one t b):=⟨λp=>⟨rfl,rfl⟩,(λu l e=>by cases e),λ_ _ l e=>by cases e⟩
def Mp{i a:LpI}{p b:Option Ex}:Oc (.lp i p) (.lp a b):=⟨λp=>⟨rfl,rfl⟩,(λu l e=>by cases e),λ_ _ l e=>by cases e⟩
def vQ{t:Ty}{o:Option Ob}{o':Ob}(h:Ob.still t o=some o'):∃ u x,o=some (.one t (.d u x))/\o'=.one t (.d u x):=by
 unfold Ob.still at h;split at h<;>first|(cases h;done)|skip
 split at h<;>first|(cases h;done)|skip
 rename_i a;simp only[zda] at h;have:=Ty.eq_of_beq _ _ a;grind
theorem oY{b:Nat}{base:Nat->Option Ob}{s':St}:∀ (l:List (Nat×ShO)) (j:Nat) (s x:List D) (f:Nat->Option Ob),Shape.decO s' l=some x->DG s x j ->
  ∀ id o',Shape.mkO b base l j s f id=some o'->f id=some o'\/(id∈l.map (·.1)/\∃ o,s'.ob id=some o/\Oc o' o)
 | [],j,s,x,f,e,d,id,o',c=>.inl c
 | (t,.one u h)::l,j,s,x,f,e,d,id,o',c=>by
  obtain⟨v,y,z,h0,h1,g,rfl⟩:=uu e;have m:=d.right;rw[nu h _ y h1] at m;simp only[Shape.mkO,rR] at c;rcases oY l _ s z _ g m id o' c with k|⟨n,q⟩
  ·split at k
   ·rename_i a;subst a;simp only[zda] at k;subst k;exact .inr ⟨by simp,_,h0,Ba⟩
   ·exact .inl k
  ·simp_all
 | (t,.many u)::l,j,s,x,f,e,d,id,o',c=>by
  obtain⟨v,z,h0,g,rfl⟩:=rn e;have r:s[j]?=some (.sl v):=by have:=d 0 (by simp);simpa using this
  have m:=d.right;simp only[Shape.mkO] at c;rcases oY l _ s z _ g m id o' c with k|⟨n,q⟩
  ·split at k
   ·rename_i a;subst a;simp only[zda,List.getD,r,zOb,D.els] at k;subst k;exact .inr ⟨by simp,_,h0,λp=>⟨by cases p<;>rfl,by cases p<;>rfl⟩,(λu l e=>by cases e;exact⟨_,rfl,rfl⟩),λ_ _ l e=>by cases e⟩
   ·exact .inl k
  ·simp_all
 | (t,.mp u A)::l,j,s,x,f,e,d,id,o',c=>by
  obtain⟨v,z,h0,g,rfl⟩:=yQ e;have r:s[j]?=some (.sl v):=by have:=d 0 (by simp);simpa using this
  have m:=d.right;simp only[Shape.mkO] at c;rcases oY l _ s z _ g m id o' c with k|⟨n,q⟩
  ·split at k
   ·rename_i a;subst a;simp only[zda,List.getD,r,zOb,D.els] at k;subst k;exact .inr ⟨by simp,_,h0,λp=>⟨rfl,rfl⟩,(λu l e=>by cases e),λ_ _ l e=>by cases e;exact⟨_,rfl⟩⟩
   ·exact .inl k
  ·simp_all
 | (t,.keep u w)::l,j,s,x,f,e,d,id,o',c=>by
  obtain⟨v,h0,g⟩:=rm e;simp only[Shape.mkO] at c;rcases oY l _ s x _ g d id o' c with k|⟨n,q⟩
  ·split at k
   ·rename_i a;subst a;obtain⟨A,y,_,rfl⟩:=vQ k;exact .inr ⟨by simp,_,h0,Ba⟩
   ·exact .inl k
  ·simp_all
 | (t,.lp p w)::l,j,s,x,f,e,d,id,o',c=>by
  obtain⟨v,h0,g⟩:=yP e;simp only[Shape.mkO] at c;rcases oY l _ s x _ g d id o' c with k|⟨n,q⟩
  ·split at k
   ·rename_i a;subst a;obtain⟨i,B,_,rfl⟩:=xD k;exact .inr ⟨by simp,_,h0,Mp⟩
   ·exact .inl k
  ·simp_all
 | (t,.fv u)::l,j,s,x,f,e,d,id,o',c=>by
  obtain⟨h0,g⟩:=yO e;simp only[Shape.mkO] at c;rcases oY l _ s x _ g d id o' c with k|⟨n,q⟩
  ·split at k
   ·rename_i a;subst a;simp only[zda] at k;subst k;exact .inr ⟨by simp,_,h0,Mo,(λu l e=>by cases e),λ_ _ l e=>by cases e⟩
   ·exact .inl k
  ·simp_all
theorem oX{n b:Nat}{c c':Cx}(T:Two n c c'){s' base:St}(F:c.ob=s'.ob)(G:c.dead=s'.dead):∀ (l:List (Nat×ShO)) (j:Nat) (s x:List D) (f:Nat->Option Ob),Shape.decO s' l=some x->DG s x j->(∀ p∈l,ShO.fine n base p.1 p.2=true) ->
  (∀ p∈vS s' l j,c'.β (b+p.1)=c.β p.2)->∀ id o',Shape.mkO b base.ob l j s f id=some o'->f id=some o' ∨
   ∃ o,s'.ob id=some o/\((∀ I,gl c I o->gl c' I o')\/(∃ t B,(id,ShO.keep t B)∈l/\Ob.still t (base.ob id)=some o')\/∃ p B i,(id,ShO.lp p B)∈l/\o=.lp i p/\Ob.lpOf p (base.ob id)=some o')
 | [],j,s,x,f,e,m,r,q,id,o',a=>.inl a
 | (t,.one u h)::l,j,s,x,f,e,m,r,q,id,o',a=>by
  obtain⟨v,y,z,h0,h1,A,rfl⟩:=uu e;have H:=m.right;rw[nu h _ y h1] at H;simp only[Shape.mkO,rR] at a;simp only[vS,List.mem_append] at q;rcases oX T F G l _ s z _ A H (λp hp=>r p (by simp[hp])) (λp hp=>q p (.inr hp)) id o' a with k|⟨o,C,E⟩
  ·split at k
   ·rename_i g;subst g;simp only[zda] at k;subst k;refine .inr ⟨_,h0,.inl λI k=>?_⟩;have d:=r (id,.one u h) (by simp)
    simp only[ShO.fine,zaa] at d;simp only[gl] at k ⊢;obtain⟨C,E,K,cs,L,M,N⟩:=k;rw[T.w,T.S];refine⟨C,Eo b h u j s d.2,K,cs,L,Bh T h v j s y cs (by rw[F,G];exact h1) m.left d.1 (λp hp=>q p (.inl ?_)) M,N⟩
    simp_all [Jh]
   ·exact .inl k
  ·simp_all
 | (t,.many u)::l,j,s,x,f,e,m,r,q,id,o',a=>by
  obtain⟨v,z,h0,A,rfl⟩:=rn e;have J:s[j]?=some (.sl v):=by have:=m 0 (by simp);simpa using this
  have H:=m.right;simp only[Shape.mkO] at a;rcases oX T F G l _ s z _ A H (λp hp=>r p (by simp[hp])) (λp hp=>q p hp) id o' a with k|⟨o,C,E⟩
  ·split at k
   ·rename_i g;subst g;simp only[zda,List.getD,J,zOb,D.els] at k;subst k
    simp_all [gl,T.w,T.S]
   ·exact .inl k
  ·simp_all
 | (t,.mp u V)::l,j,s,x,f,e,m,r,q,id,o',a=>by
  obtain⟨v,z,h0,A,rfl⟩:=yQ e;have J:s[j]?=some (.sl v):=by have:=m 0 (by simp);simpa using this
  have H:=m.right;simp only[Shape.mkO] at a;rcases oX T F G l _ s z _ A H (λp hp=>r p (by simp[hp])) (λp hp=>q p hp) id o' a with k|⟨o,C,E⟩
  ·split at k
   ·rename_i g;subst g;simp only[zda,List.getD,J,zOb,D.els] at k;subst k;refine .inr ⟨_,h0,.inl λI k=>?_⟩;simp only[gl] at k ⊢;obtain⟨O,P,Q,es,R,U⟩:=k;rw[T.w,T.S];exact⟨O,P,Q,es,R,jf.same T.w T.S U⟩
   ·exact .inl k
  ·simp_all
 | (t,.keep u B)::l,j,s,x,f,e,m,r,q,id,o',a=>by
  obtain⟨v,h0,A⟩:=rm e;simp only[Shape.mkO] at a;rcases oX T F G l _ s x _ A m (λp hp=>r p (by simp[hp])) (λp hp=>q p hp) id o' a with k|⟨o,C,E⟩
  ·grind
  ·grind
 | (t,.lp p B)::l,j,s,x,f,e,m,r,q,id,o',a=>by
  obtain⟨v,h0,A⟩:=yP e;simp only[Shape.mkO] at a;rcases oX T F G l _ s x _ A m (λp hp=>r p (by simp[hp])) (λp hp=>q p hp) id o' a with k|⟨o,C,E⟩
  ·grind
  ·grind
 | (t,.fv u)::l,j,s,x,f,e,m,r,q,id,o',a=>by
  obtain⟨h0,A⟩:=yO e;simp only[Shape.mkO] at a;rcases oX T F G l _ s x _ A m (λp hp=>r p (by simp[hp])) (λp hp=>q p hp) id o' a with k|⟨o,C,E⟩
  ·split at k
   ·rename_i g;subst g;simp only[zda] at k;subst k;have d:=r (id,.fv u) (by simp)
    simp only[ShO.fine,zaa] at d;refine .inr ⟨_,h0,.inl λI k=>?_⟩;obtain⟨C,x,E,K,L⟩:=k;simp only[gl];rw[T.w,T.S];exact⟨C,x,E,K.old T d.1 d.2,L⟩
   ·exact .inl k
  ·grind
theorem xX:∀ {l:List (Nat×Nat)},dI (l.map Prod.snd)=true->∀ p∈l,∀ q∈l,p.2=q.2->p=q
 | [],_,p,hp,_,_,_=>by cases hp
 | x::l,h,p,hp,q,hq,e=>by
  simp only[z9a,dI,zaa,zCa] at h;have hx:∀ y∈l,y.2≠x.2:=λy d c=>by
   grind
  rcases zwa.1 hp with rfl|a
  ·simp_all
  ·rcases zwa.1 hq with rfl|b
   ·simp_all
   ·exact xX h.2 p a q b e
theorem sW:∀ {l:List (Nat×ShO)} {id:Nat} {t:Ty} {a:Nat},(id,ShO.keep t a)∈l->id∈cu l
 | [],_,_,_,h=>by cases h
 | (i,o)::l,id,t,a,h=>by
  rcases zwa.1 h with k|k
  ·grind [cu]
  ·have ih:=sW k;cases o<;>simp only[cu]<;>first
    | exact ih
    | exact zia _ ih
theorem p9:∀ {l:List (Nat×ShO)} {id:Nat} {p:Option Ex} {a:Nat},(id,ShO.lp p a)∈l->id∈cu l
 | [],_,_,_,h=>by cases h
 | (i,o)::l,id,p,a,h=>by
  rcases zwa.1 h with k|k
  ·grind [cu]
  ·have ih:=p9 k;cases o<;>simp only[cu]<;>first
    | exact ih
    | exact zia _ ih
section
variable{w0:Root}{w w':World}{S S':Nat->Nat->Prop}{γ γ':Nat->Option Nat}{β β':Nat->Option (Nat×Nat)}{s s':St}{a a':Act}
def nh(h0:Rp w0 S γ β s a w)(h1:Rp w0 S' γ' β' s' a' w')(I:∀ b o,S b o->S' b o)(E:∀ b o,S b o->w'.cell? ⟨b,o,none⟩=w.cell? ⟨b,o,none⟩)(a1:s'.nt=s.nt){h:Shape}
  (hs:∀ t∈h.keepS,a'.tmps.getD t undef=a.tmps.getD t undef) (ax:∀ id b,γ id=some b->γ' id=some b) (ho:∀ id∈cu h.objs,∀ b,γ id=some b->γ' id=some b/\jL w w' b) {v:List D} (R:h.dec s s'=some v) (lkS lkO:List Nat) :
  ∃ A β'',Rp w0 S' A β'' (h.mk' s v lkS lkO) a' w'/\∀ id,id<s.base+4096->A id=γ' id:=by
 unfold Shape.dec at R;split at R<;>first|(cases R;done)|skip
 rename_i hg;simp only[zaa] at hg;obtain⟨hg,a6⟩:=hg;obtain⟨x,hx,R⟩:=bind_some_inv R;obtain⟨y,hy,R⟩:=bind_some_inv R;simp only[zda] at R;subst R;simp only[Shape.good,zaa,zma,decide_eq_true_eq] at hg;obtain⟨⟨⟨⟨bt,bx⟩,U⟩,Z⟩,bL⟩:=hg;have bl:=AF s' h.slots x hx;obtain⟨n,hn⟩:∃ n,n=(s.fresh+1)*4096:=⟨_,rfl⟩;have bi:s.base+4096=n:=by rw[hn];simp only[St.base];omega
 rw[<-hn] at U Z;obtain⟨tl,J⟩:∃ tl,tl=NT s' h.slots 0++vS s' h.objs (Shape.cntS h.slots):=⟨_,rfl⟩;have a3:Pl tl 0 (Shape.cntS h.slots+Shape.cntO h.objs):=by
  rw[J];have p1:=Ji s' h.slots 0;rw[zWa] at p1;exact p1.append (pe s' h.objs _) (by omega) (by omega)
 have a4:dI (tl.map Prod.snd)=true:=by rw[J,zMb,zV,j4];exact a6
 have l:∀ p∈tl,p.2 ∉ s'.dead:=λp hp=>by
  rw[J] at hp;rcases List.mem_append.1 hp with hp|hp
  ·exact uw s' _ x hx _ (by rw[<-zV s' _ 0];exact z9b hp)
  ·exact fS s' _ y hy _ (by rw[<-j4 s' _ (Shape.cntS h.slots)];exact z9b hp)
 obtain⟨A,hγ⟩:∃ A:Nat->Option Nat,A=λid=>if id<n then γ' id else none:=⟨_,rfl⟩
 obtain⟨β'',hβ⟩:∃ β'':Nat->Option (Nat×Nat),β''=λu=>if n<=u then(tl.find? λp=>p.1==u-n).bind λp=>β' p.2 else none:=⟨_,rfl⟩
 have ak:∀ id,id<n->A id=γ' id:=λid N=>by rw[hγ];simp[N]
 have L:∀ id b,A id=some b->id<n/\γ' id=some b:=λid b m=>by
  rw[hγ] at m;simp only at m;split at m
  ·rename_i N;exact⟨N,m⟩
  ·cases m
 have a9:∀ p∈tl,β'' (n+p.1)=β' p.2:=λp hp=>by
  rw[hβ];simp only[zad,if_true,zFb];cases hfd:tl.find? λq=>q.1==p.1 with
  | none=>
   have:=List.find?_eq_none.1 hfd p hp;simp at this
  | some q=>
   have h1:=List.find?_some hfd;have h2:=List.mem_of_find?_eq_some hfd;rw[a3.2 q h2 p hp (by simpa using h1)]
   rfl
 have K:∀ u b,β'' u=some b->∃ p∈tl,u=n+p.1/\β' p.2=some b:=λu b m=>by
  rw[hβ] at m;simp only at m;split at m<;>first|(cases m;done)|skip
  rename_i hu;obtain⟨p,h1,h2⟩:=bind_some_inv m;refine⟨p,List.mem_of_find?_eq_some h1,?_,h2⟩;have:=List.find?_some h1;simp only[beq_iff_eq] at this;omega
 have an:DG (x++y) x 0:=λi N=>by rw[zWa,zkb N]
 have V:DG (x++y) y (Shape.cntS h.slots):=λi N=>by rw[<-bl,zEb (by omega),zFb]
 obtain⟨F,ad⟩:∃ F,F=(h.mk' s (x++y) lkS lkO).ob:=⟨_,rfl⟩;have X:F=Shape.mkO n s.ob h.objs (Shape.cntS h.slots) (x++y) (λ_=>none):=by
  rw[ad];simp only[Shape.mk',En,zWa,<-hn]
 have T:Two n ⟨w',S',γ',β',s'.ob,s'.dead⟩ ⟨w',S',A,β'',F,[]⟩:=by
  refine⟨rfl,rfl,ak,λid N o' a2=>?_⟩;rw[X] at a2;rcases oY h.objs _ _ y _ hy V id o' a2 with k|⟨_,o,O,C⟩
  ·cases k
  ·exact⟨o,O,C.1,C.2⟩
 have ai:a'.tmps.size=a.tmps.size:=by rw[h1.nt,a1,h0.nt]
 have a5:(h.mk' s (x++y) lkS lkO).tm=(Shape.mkS n h.slots 0 (x++y) (λi=>if h.keepS.contains i then(s.tm i).still else .undef)).1:=by
  simp only[Shape.mk',<-hn]
 have G:=Io (b:=n) T (s':=s') rfl rfl h.slots 0 (x++y) x (λi=>if h.keepS.contains i then(s.tm i).still else .undef) hx an (λp hp=>(Z p hp).2) (λp hp=>a9 p (by rw[J];exact List.mem_append_left _ hp))
 refine⟨A,β'',⟨h1.ext,λt ht=>?_,?_,λt ht=>?_,λid o b aI m=>?_,λid b m=>h1.γn id b (L id b m).2,λid M b m g=>h1.γi id M b (L id b m).2 (L M b g).2,λid N=>?_,λu b e _ m=>?_,λu u' b e e' _ _ m g=>?_,λu id b e _ m hid=>?_,λu hu=>?_,h1.Sb,h1.So⟩,λid N=>ak id (by omega)⟩
 ·rw[a5,<-ad];rcases G t with⟨O,C⟩|⟨O,C⟩
  ·exact C _ (h1.tms t ht)
  ·rw[C];by_cases hk:h.keepS.contains t=true
   ·have bk:t∈h.keepS:=by simpa using hk
    rw[if_pos hk,hs t bk];exact nj (c:=⟨w,S,γ,β,s.ob,s.dead⟩) E I (h0.tms t (by rw[<-ai];exact ht))
   ·rw[if_neg hk];simp only[AR]
 ·show a'.tmps.size=s.nt;rw[h1.nt,a1]
 ·have bp:s.nt<=t:=ht;rw[a5];rcases G t with⟨O,C⟩|⟨O,C⟩
  ·obtain⟨p,hp,rfl⟩:=zXa.1 O;have:=(Z p hp).1;omega
  ·rw[C];split
   ·rw[h0.tmu t bp];rfl
   ·rfl
 ·have g:=(L id b m).2;rw[<-ad] at aI ⊢;have W:=aI;rw[X] at W;rcases oX (b:=n) (base:=s) T (s':=s') rfl rfl h.objs (Shape.cntS h.slots) (x++y) y _ hy V (λp hp=>(U p hp).2) (λp hp=>a9 p (by rw[J];exact zOa _ hp)) id o W with k|⟨o0,O,C|⟨t,al,C,k3⟩|⟨p,al,i1,C,rfl,k3⟩⟩
  ·cases k
  ·exact C b (h1.obs id o0 b O g)
  ·have d:=(U _ C).2;simp only[ShO.fine] at d;split at d<;>first|(cases d;done)|skip
   rename_i u M p hw;simp only[zaa,decide_eq_true_eq] at d;obtain⟨rfl,aj⟩:=d;have Q:=h0.tms al (by rw[h0.nt];exact aj)
   rw[hw] at Q;simp only[AR,AC] at Q;obtain⟨_,P,off,_,z,_⟩:=Q;obtain⟨q1,q2⟩:=ho id (sW C) P z;rw[g] at q1;simp only[zda] at q1;subst q1;obtain⟨u',x',H,rfl⟩:=vQ k3;have hO:=h0.obs id _ b H z;have B:=h1.obs id o0 b O g;simp only[gl,AC] at hO ⊢;obtain⟨r1,r2,_,cs,r3,⟨r4,r5,r6⟩,r7⟩:=hO;have q2:=q2.row r3;have bm:∀ o,¬ S' b o:=by
    cases o0
    case lp i p=>
     simp only[gl] at B;obtain⟨rr,z1,_⟩:=B;rw[q2] at z1;simp[bO,z1] at r3
    case fv v=>exact B.1
    all_goals (simp only[gl] at B;exact B.2.2.1)
   refine⟨r1,r2,bm,cs,?_,⟨r4,r5,r6.mono E I⟩,r7⟩;simp only[bO,q2];exact r3
  ·have d:=(U _ C).2;simp only[ShO.fine,zaa,decide_eq_true_eq] at d;obtain⟨d,aj⟩:=d;have Q:=h0.tms al (by rw[h0.nt];exact aj)
   obtain⟨P,z⟩:∃ P,γ id=some P:=by
    split at d<;>first|(cases d;done)|skip
    ·rename_i M hw;have e:=of_decide_eq_true d;subst e;rw[hw] at Q;simp only[AR,AC] at Q;obtain⟨_,P,_,z⟩:=Q;exact⟨P,z⟩
    ·rename_i v hw;rw[hw] at Q;split at d<;>first|(cases d;done)|skip
     rename_i M hv;have e:=of_decide_eq_true d;subst e;obtain⟨bv,_,_,bs,_⟩:=lc Q;obtain⟨_,x,_,k,_⟩:=h0.obs v _ bv hv bs;simp only[fQ,AR,AC] at k;obtain⟨_,P,_,z⟩:=k;exact⟨P,z⟩
   obtain⟨q1,q2⟩:=ho id (p9 C) P z;rw[g] at q1;simp only[zda] at q1;subst q1;obtain⟨i,p0,H,rfl⟩:=xD k3;have hO:=h0.obs id _ b H z;have B:=h1.obs id _ b O g;simp only[gl] at hO B ⊢;obtain⟨rec,r1,⟨r2,r3,r4,r5⟩,r6,_⟩:=hO;obtain⟨Y,v1,_,_,v4⟩:=B;have e:Cc rec Y:=by
    rcases q2 with k|⟨r,r',z1,z2,z3⟩
    ·rw[v1,r1] at k;cases k;exact⟨rfl,rfl,rfl,rfl⟩
    ·rw[r1] at z1;cases z1;rw[v1] at z2;cases z2;exact z3
   refine⟨Y,v1,⟨by rw[e.1];exact r2,by rw[e.2.1];exact r3,by rw[e.2.2.1];exact r4,by rw[e.2.2.2];exact r5⟩,λt ht=>?_,v4⟩
   rw[e.1];refine fQ.mono (c:=⟨w,S,γ,β,s.ob,s.dead⟩) E I (λj bj hj=>?_) (r6 t ht);rcases zla j n with k|k
   ·exact(ak j k).trans (ax j bj hj)
   ·have a0:γ j=some bj:=hj;rw[h0.γf j (by omega)] at a0;cases a0
 ·have bM:(s.fresh+1)*4096+4096<=id:=N;rw[hγ];simp only;rw[if_neg (by omega)]
 ·obtain⟨p,hp,_,g⟩:=K u _ m;exact h1.βn _ b e (l p hp) g
 ·obtain⟨p,hp,rfl,k⟩:=K u _ m;obtain⟨q,hq,rfl,k'⟩:=K u' _ g;have:=h1.βi _ _ b e e' (l p hp) (l q hq) k k';rw[xX a4 p hp q hq this]
 ·obtain⟨p,hp,_,g⟩:=K u _ m;exact h1.βγ _ id b e (l p hp) g (L id b hid).2
 ·have bN:(s.fresh+1)*4096+4096<=u:=hu;cases hc:β'' u with
  | none=>rfl
  | some b=>
   obtain⟨p,hp,e,_⟩:=K u b hc;have:=(a3.1 p hp).2;omega
end
end Sy
end
end Go.Proofs.YtphlmegkommlnaaGreatDoor
