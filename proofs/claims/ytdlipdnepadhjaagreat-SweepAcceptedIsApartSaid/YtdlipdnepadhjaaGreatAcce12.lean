/- Part 12 -/
import Derived.Test.YtdlipdnepadhjaaGreatAcce07
import Derived.Test.YtdlipdnepadhjaaGreatAcce08
import Derived.Test.YtdlipdnepadhjaaGreatAcce09
import Derived.Test.YtdlipdnepadhjaaGreatAcce10
import Derived.Test.YtdlipdnepadhjaaGreatAcce11
set_option linter.all false
set_option maxRecDepth 20000
namespace Go.Proofs.YtdlipdnepadhjaaGreat
noncomputable section
set_option maxRecDepth 100000
set_option maxHeartbeats 0
namespace Sy
open Go Go.Proofs
def PQ:∀ m∈Jf,∃ call,gm Tryz.prog call/\call m.1 m.2.1=some m.2.2:=by
 intro m hm;refine⟨LA,LB,?_⟩;simp only[Jf,zMa,zbc,or_false] at hm;rcases hm with rfl|rfl|rfl|rfl|rfl|rfl|rfl|rfl|rfl|rfl|rfl|rfl|rfl|rfl
 ·exact VA
 ·exact VB
 ·exact VC
 ·exact VD
 ·exact VE
 ·exact VF
 ·exact VG
 ·exact VH
 ·exact VI
 ·exact VJ
 ·exact Pu
 ·exact Pv
 ·exact Pw
 ·exact Px
def Wf:Nat->List D->Option D:=wL (itN 2000) Jf 18
def Qj:gm Tryz.prog Wf:=rU (zQ 2000) PQ 18
def Gl:Wf 473 []=some (.bool true):=j3
end Sy
end
end Go.Proofs.YtdlipdnepadhjaaGreat
