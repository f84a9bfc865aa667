/-
  Facts of the program as a whole, for the kernel: the half that every row's builder asks for.
-/
import Derived.Test.YtacdiahgohiilaaGreatRows
import Derived.ProofKit
namespace Go.Proofs.YtacdiahgohiilaaGreat.Fc
open Go
open Go.Proofs.YtacdiahgohiilaaGreat
theorem laidOut : laidOutB Tryz.prog = true := by kernel_rfl
theorem mapsRowed : Go.mapsRowed Tryz.prog = true := by kernel_rfl
theorem stops : (Tryz.prog.stops == []) = true := by kernel_rfl
theorem stopKnobs : (Tryz.prog.stopKnobs == []) = true := by kernel_rfl
theorem plainKeys : Tryz.prog.plainKeys = Rows.soloBoundsRow.plainKeys := by kernel_rfl
theorem stopsHeard : Tryz.prog.stopsHeard = true := by kernel_rfl
theorem own : ownKnob Tryz.prog.godebug = none := by kernel_rfl
theorem both {a b : Bool} (h : a = true) (k : b = true) : (a && b) = true := by rw [h, k]; rfl
end Go.Proofs.YtacdiahgohiilaaGreat.Fc
