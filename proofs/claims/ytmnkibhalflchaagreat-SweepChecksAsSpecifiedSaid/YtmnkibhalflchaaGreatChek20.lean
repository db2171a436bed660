/- Part 20 of the proof that SweepChecksAsSpecified answers true at every input -/
import Derived.Test.YtmnkibhalflchaaGreatChek15
import Derived.Test.YtmnkibhalflchaaGreatChek16
import Derived.Test.YtmnkibhalflchaaGreatChek17
import Derived.Test.YtmnkibhalflchaaGreatChek18
import Derived.Test.YtmnkibhalflchaaGreatChek19
set_option linter.unusedVariables false
set_option linter.unusedSimpArgs false
set_option linter.unnecessarySimpa false
set_option linter.defProp false
set_option maxRecDepth 20000
namespace Go.Proofs.YtmnkibhalflchaaGreat
noncomputable section
set_option maxRecDepth 100000
set_option maxHeartbeats 0
namespace Sy
open Go Go.Proofs
def KZ:∀ m∈D5,∃ call,fh Tryz.prog call/\call m.1 m.2.1=some m.2.2:=by
 intro m hm;refine⟨FJ,FK,?_⟩;simp only[D5,zGa,zTb,or_false] at hm;rcases hm with rfl|rfl|rfl|rfl|rfl|rfl|rfl|rfl|rfl|rfl|rfl|rfl|rfl|rfl
 ·exact Nt
 ·exact Nu
 ·exact Nv
 ·exact Nw
 ·exact Nx
 ·exact Ny
 ·exact Nz
 ·exact NA
 ·exact NB
 ·exact NC
 ·exact KI
 ·exact KJ
 ·exact KK
 ·exact KL
def NS:Nat->List D->Option D:=sJ (itN 2000) D5 18
def Lw:fh Tryz.prog NS:=ov (vO 2000) KZ 18
def BE:NS 473 []=some (.bool true):=x6
end Sy
end
end Go.Proofs.YtmnkibhalflchaaGreat
