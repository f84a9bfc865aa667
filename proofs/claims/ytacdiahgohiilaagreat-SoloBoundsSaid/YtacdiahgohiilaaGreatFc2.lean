/-
  Facts of the program as a whole, for the kernel: whether its texts may be entered, and its finals.
-/
import Derived.Test.YtacdiahgohiilaaGreatRows
import Derived.ProofKit
namespace Go.Proofs.YtacdiahgohiilaaGreat.Fc
open Go
open Go.Proofs.YtacdiahgohiilaaGreat
theorem mayEnter : Tryz.prog.mayEnter = true := by kernel_rfl
theorem liftsFinal : Tryz.prog.liftsFinal = Rows.soloBoundsRow.lifted := by kernel_rfl
end Go.Proofs.YtacdiahgohiilaaGreat.Fc
