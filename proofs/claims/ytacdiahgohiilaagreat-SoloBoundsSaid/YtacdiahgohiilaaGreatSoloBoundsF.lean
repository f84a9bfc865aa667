/-
  SoloBounds: the closed facts of its row, one theorem each, and the row's builder at the core's form.
-/
import Derived.Test.YtacdiahgohiilaaGreatRows
import Derived.ProofKit
import Derived.Test.YtacdiahgohiilaaGreatFc0
import Derived.Test.YtacdiahgohiilaaGreatFc1
import Derived.Test.YtacdiahgohiilaaGreatFc2
import Derived.Test.YtacdiahgohiilaaGreatFc3
namespace Go.Proofs.YtacdiahgohiilaaGreat.SoloBounds
open Go
open Go.Proofs.YtacdiahgohiilaaGreat
theorem j0 : (Rows.soloBoundsRow.wf (OpenSpec.ofChange Rows.soloBoundsSpec)) = true := by kernel_rfl
theorem j1 : (laidOutB Tryz.prog) = true := Fc.laidOut
theorem j2 : (mapsRowed Tryz.prog) = true := Fc.mapsRowed
theorem j3 : (Tryz.f10.params.all (Tryz.prog.readableRec ·)) = true := by kernel_rfl
theorem j4 : (namedTie Tryz.prog Rows.soloBoundsRow.named Rows.soloBoundsSpec.vars) = true := by kernel_rfl
theorem j5 : ((Rows.soloBoundsRow.stops == [])) = true := by kernel_rfl
theorem j6 : ((Tryz.prog.stops == [])) = true := Fc.stops
theorem j7 : ((Rows.soloBoundsRow.knobs == [])) = true := by kernel_rfl
theorem j8 : ((Tryz.prog.stopKnobs == [])) = true := Fc.stopKnobs
theorem j9 : ((Rows.soloBoundsRow.inPlace == Tryz.prog.inPlace 10)) = true := by kernel_rfl
theorem j10 : ((Rows.soloBoundsRow.unfollowed == Tryz.prog.unfollowed 10)) = true := by kernel_rfl
theorem j11 : ((Rows.soloBoundsRow.recurses == Tryz.prog.recurses 10)) = true := by kernel_rfl
theorem j12 : ((Rows.soloBoundsRow.named == Tryz.prog.varsNamed 10)) = true := by kernel_rfl
theorem j13 : ((Rows.soloBoundsRow.maps == (Tryz.f10.params.toList ++ Rows.soloBoundsSpec.plain.varTypes Tryz.prog).any (Tryz.prog.mapsRec ·))) = true := by kernel_rfl
theorem j14 : ((Rows.soloBoundsRow.ifaces == (Tryz.f10.params.toList ++ Rows.soloBoundsSpec.plain.varTypes Tryz.prog).any (Tryz.prog.ifacesRec ·))) = true := by kernel_rfl
theorem j15 : ((Rows.soloBoundsRow.mapsOut == Tryz.prog.mapsAmong Tryz.f10.resultTypes.toList)) = true := by kernel_rfl
theorem j16 : ((Rows.soloBoundsRow.loops == (Tryz.f10.params.toList ++ Rows.soloBoundsSpec.plain.varTypes Tryz.prog).any (Tryz.prog.loopsFrom ·))) = true := by kernel_rfl
theorem j17 : ((Rows.soloBoundsRow.wideKeys == (Tryz.f10.params.toList ++ Rows.soloBoundsSpec.plain.varTypes Tryz.prog ++ Tryz.f10.resultTypes.toList).any (Tryz.prog.wideKeysFrom ·))) = true := by kernel_rfl
theorem j18 : (Rows.soloBoundsSpec.vars.all (Tryz.prog.varReadable ·)) = true := by kernel_rfl
theorem j19 : (Tryz.f10.resultTypes.all (fun t => Tryz.prog.readableRec t && decide (t < Tryz.prog.types.size))) = true := by kernel_rfl
theorem j20 : ((Rows.soloBoundsRow.ifacesOut == Tryz.f10.resultTypes.toList.any (Tryz.prog.ifacesRec ·))) = true := by kernel_rfl
theorem j21 : ((Rows.soloBoundsRow.loopsOut == Tryz.f10.resultTypes.toList.any (Tryz.prog.loopsFrom ·))) = true := by kernel_rfl
theorem j22 : ((Rows.soloBoundsRow.plainKeys == Tryz.prog.plainKeys)) = true := by rw [Fc.plainKeys]; kernel_rfl
theorem j23 : (Rows.soloBoundsRow.shortTexts.isNone) = true := by kernel_rfl
theorem j24 : (Tryz.prog.stopsHeard) = true := Fc.stopsHeard
theorem j25 : (Tryz.prog.mayEnter) = true := Fc.mayEnter
theorem j26 : ((Rows.soloBoundsRow.lifted == Tryz.prog.liftsFinal)) = true := by rw [Fc.liftsFinal]; kernel_rfl
theorem j27 : ((Tryz.prog.make == some Rows.soloBoundsRow.make)) = true := by rw [Fc.make]; kernel_rfl
theorem j29 : ((Rows.soloBoundsRow.pinned == Rows.soloBoundsRow.pinnedBy)) = true := by kernel_rfl
theorem j30 : ((Rows.soloBoundsRow.veiled == (Tryz.f10.params.toList ++ Rows.soloBoundsSpec.plain.varTypes Tryz.prog ++ Tryz.f10.resultTypes.toList).any (Tryz.prog.veiledRec ·))) = true := by kernel_rfl
theorem j31 : (Rows.soloBoundsRow.veiledFits Tryz.prog Tryz.f10.params.toList (Tryz.f10.params.toList ++ Rows.soloBoundsSpec.plain.varTypes Tryz.prog ++ Tryz.f10.resultTypes.toList)) = true := by kernel_rfl
theorem closed : joinedFacts Tryz.prog 10 Tryz.f10 Rows.soloBoundsSpec Rows.soloBoundsRow = true := Go.Fcj.joined Tryz.prog 10 Tryz.f10 Rows.soloBoundsSpec Rows.soloBoundsRow j0 j1 j2 j3 j4 j5 j6 j7 j8 j9 j10 j11 j12 j13 j14 j15 j16 j17 j18 j19 j20 j21 j22 j23 j24 j25 j26 j27 (by kernel_rfl) j29 j30 j31
theorem named : Tryz.prog.funcNamed Rows.soloBoundsRow.func = some 10 := by kernel_rfl
theorem inst : Tryz.f10.isInstance Tryz.prog Rows.soloBoundsRow.origin Rows.soloBoundsRow.targs := of_decide_eq_true (by kernel_rfl)
theorem wrap : Tryz.f10.isWrapper Tryz.prog Rows.soloBoundsRow.wrapper Rows.soloBoundsRow.mainSum := by unfold Func.isWrapper; first | (rw [if_pos (by decide +kernel)]; kernel_rfl) | (rw [if_neg (by decide +kernel)]; exact ⟨rfl, rfl⟩)
theorem prog_eq : Tryz.pinned.checked = Tryz.checked := rfl
theorem over (h : ∀ os : Os, os.Started → ∀ (H : Type) (enc : TypeId × Value → H), (∀ a b, enc a = enc b → a = b) →
      ReturnsInHanded Rows.soloBoundsRow.assume Tryz.checked os 10 .any (Rows.soloBoundsRow.pre enc Tryz.prog Tryz.f10 (OpenSpec.ofChange Rows.soloBoundsSpec)) (Rows.soloBoundsSpec.post enc Tryz.prog Tryz.f10 Rows.soloBoundsRow.apart Rows.soloBoundsRow.fresh Rows.soloBoundsRow.handsOn Rows.soloBoundsRow.again)) : Rows.soloBoundsRow.holds Tryz.pinned (OpenSpec.ofChange Rows.soloBoundsSpec) :=
  OpenClaim.holds_of_wide (p := Tryz.pinned) 10 Tryz.f10 rfl rfl rfl rfl rfl rfl rfl ⟨rfl, rfl, rfl, rfl, rfl⟩ rfl rfl rfl rfl rfl named Tryz.func10 closed inst wrap h
end Go.Proofs.YtacdiahgohiilaaGreat.SoloBounds
