/-
  Lemmas for the claims of this seat: module SbPure.
-/
import Derived.Test.YtacdiahgohiilaaGreatSb
namespace Go.Proofs.YtacdiahgohiilaaGreat.SoloBounds
open Go.Dw Go
open Go.Proofs.YtacdiahgohiilaaGreat
open Go.RowKit
theorem may_eq (t s m : Int) : mayB t s m = may5 t s m := by
  unfold mayB may5 inB
  rw [Bool.eq_iff_iff]
  simp
  omega

theorem wr_small {n : Int} (h1 : -1000000 ≤ n) (h2 : n ≤ 1000000) : wr n = n := by
  unfold wr IntKind.wrap
  simp only [IntKind.bits, IntKind.signed, Bool.true_and]
  by_cases h : n % 2 ^ 64 ≥ 2 ^ (64 - 1)
  · rw [if_pos (by simpa using h)]; omega
  · rw [if_neg (by simpa using h)]; omega

theorem lst_eq (t s m : Int) : lstI t s m = lstR t s m := by
  unfold lstI lstR
  rw [← may_eq]
  cases hm : mayB t s m with
  | false => rfl
  | true =>
    simp only [Bool.not_true, cond_false]
    have hb : 1 ≤ t ∧ t ≤ 6 ∧ 7 ≤ s ∧ s ≤ 250 := by
      unfold mayB inB at hm
      simp at hm
      omega
    obtain ⟨h1, h2, h3, h4⟩ := hb
    have e1 : wr (6 * t) = 6 * t := wr_small (by omega) (by omega)
    have e2 : wr (s - 5) = s - 5 := wr_small (by omega) (by omega)
    have e3 : wr (s - 5 - 6 * t) = s - 5 - 6 * t := wr_small (by omega) (by omega)
    have e4 : wr (5 + 6 * t) = 5 + 6 * t := wr_small (by omega) (by omega)
    unfold lst lst5
    rw [e1, e2, e3, e4]
    by_cases hc : s < 5 + 6 * t
    · rw [if_neg (by omega)]
      have : decide (s < 5 + 6 * t) = true := by simpa using hc
      rw [this]
      rfl
    · have : decide (s < 5 + 6 * t) = false := by simpa using hc
      rw [this, cond_false]
      by_cases hd : s - 5 - 6 * t > 0
      · rw [if_pos hd]
      · rw [if_neg hd, show s - 5 - 6 * t = 0 by omega]

theorem bnd_eq (t s m : Int) : bndI t s m = bndR t s m := by
  unfold bndI bndR; rw [may_eq]

theorem body (t s m a b : Int) : xfun PP D0 (tabOf tD) 3 Tryz.f10 [conf0 t s m, i0 a, i0 b] () () = some (b0 true, (), ()) := by
  refine (x10 t s m a b).trans ?_
  rw [bnd_eq, lst_eq]
  simp

def g10 : List A0 → Option A0
  | [.b (.agg [.v (.int .i64 _), .v (.int .i64 _), .v (.int .u64 _)]), .b (.c (.v (.int .i64 _))), .b (.c (.v (.int .i64 _)))] => some (b0 true)
  | _ => none
theorem ok10 : SpecOK E0 PP 10 (Ent.e0 g10).run := by
  refine spec_e0 mixP okD Tryz.func10 3 fun th co args v h => ?_
  unfold g10 at h
  split at h
  · have h := Option.some.inj h; subst h
    exact body _ _ _ _ _
  · exact absurd h (by simp)

theorem walk (t s m a b : Int) (w : World) : Calls Tryz.prog 10 #[.agg #[.int .i64 t, .int .i64 s, .int .u64 m], .int .i64 a, .int .i64 b] w fun e w' => e = .returned (.bool true) ∧ Below w.heap.size w w' := by
  have h := ok10 () () [conf0 t s m, i0 a, i0 b] (b0 true) () () rfl rfl () w #[.agg #[.int .i64 t, .int .i64 s, .int .u64 m], .int .i64 a, .int .i64 b] trivial
    (.cons ⟨[_, _, _], rfl, .cons rfl (.cons rfl (.cons rfl .nil))⟩ (.cons rfl (.cons rfl .nil)))
  refine h.mono fun e w' ⟨cv, l', e1, hl⟩ => ?_
  have hv : cv = .bool true := hl.val
  subst hv
  exact ⟨e1, hl.oth.1, hl.oth.2.1, hl.oth.2.2, hl.grow, fun k hk => hl.keep k hk (fun h => h)⟩

end Go.Proofs.YtacdiahgohiilaaGreat.SoloBounds
