/-
  A fact of the program as a whole, for the kernel: how it is made.
-/
import Derived.Test.YtacdiahgohiilaaGreatRows
import Derived.ProofKit
namespace Go.Proofs.YtacdiahgohiilaaGreat.Fc
open Go
open Go.Proofs.YtacdiahgohiilaaGreat
theorem make : Tryz.prog.make = some Rows.soloBoundsRow.make := by kernel_rfl
end Go.Proofs.YtacdiahgohiilaaGreat.Fc
