/- Part 13 of the proof that SweepFoundIsAccepted answers true at every input -/
import Derived.Test.YtdlipdnepadhjaaGreatFoun08
import Derived.Test.YtdlipdnepadhjaaGreatFoun09
import Derived.Test.YtdlipdnepadhjaaGreatFoun10
import Derived.Test.YtdlipdnepadhjaaGreatFoun11
import Derived.Test.YtdlipdnepadhjaaGreatFoun12
set_option linter.all false
set_option maxRecDepth 20000
namespace Go.Proofs.YtdlipdnepadhjaaGreat
noncomputable section
set_option maxRecDepth 100000
set_option maxHeartbeats 0
namespace Sy
open Go Go.Proofs
def Rq:∀ m∈IL,∃ call,gf Tryz.prog call/\call m.1 m.2.1=some m.2.2:=by
 intro m hm;refine⟨KZ,La,?_⟩;simp only[IL,zOa,zkc,or_false] at hm;rcases hm with rfl|rfl|rfl|rfl|rfl|rfl|rfl|rfl|rfl|rfl|rfl|rfl|rfl|rfl
 ·exact U6
 ·exact U7
 ·exact U8
 ·exact U9
 ·exact Va
 ·exact Vb
 ·exact Vc
 ·exact Vd
 ·exact Ve
 ·exact Vf
 ·exact Q6
 ·exact Q7
 ·exact Q8
 ·exact Q9
def VO:Nat->List D->Option D:=wn (itN 2000) IL 18
def RU:gf Tryz.prog VO:=rJ (zu 2000) Rq 18
def FJ:VO 473 []=some (.bool true):=B
end Sy
end
end Go.Proofs.YtdlipdnepadhjaaGreat
