/-
  Lemmas for the claims of this seat: module Sb.
-/
import Derived.Test.YtacdiahgohiilaaGreatEx
import Derived.Test.YtacdiahgohiilaaGreatProg
/-! Bounds: functions of whole numbers alone, by the executor with no machine. -/
namespace Go.Proofs.YtacdiahgohiilaaGreat
open Go Go.Dw

def D0 : Mem Empty Unit Unit := ⟨fun _ _ q _ => q.elim, fun _ q _ => q.elim, fun _ _ q _ _ => q.elim⟩
def E0 : Dom D0 where
  Lay := Unit
  blk := fun _ q => q.elim
  fp := fun _ _ => False
  Rep := fun _ _ _ _ => True
  lt := fun _ h => h.elim
  stable := fun _ _ => trivial
  load := fun {_ _ _ _ q _ _} _ _ => q.elim
  sle := fun {_ _ q _ _} _ => q.elim
  store := fun {_ _ _ _ q _ _ _ _} _ _ => q.elim

abbrev A0 := AV Empty
@[reducible] def i0 (n : Int) : A0 := avs (.int .i64 n)
@[reducible] def b0 (b : Bool) : A0 := avs (.bool b)
@[reducible] def nilp : A0 := avs (.pointer none)
@[reducible] def conf0 (t s m : Int) : A0 := .b (.agg [.v (.int .i64 t), .v (.int .i64 s), .v (.int .u64 m)])

def inB (n lo hi : Int) : Bool := bif decide (n ≥ lo) then decide (n ≤ hi) else false
def mayB (t s m : Int) : Bool := bif inB t 1 6 then bif inB s 7 250 then bif decide (m ≥ 1) then decide (m ≤ 1099511627776) else false else false else false
def may5 (t s m : Int) : Bool := bif decide (t > 0) then bif decide (t < 7) then bif decide (s > 6) then bif decide (s < 251) then bif decide (m > 0) then decide (m ≤ 1099511627776) else false else false else false else false else false
abbrev wr (n : Int) : Int := IntKind.i64.wrap n
def bnd (t s : Int) : Int := wr (t * wr (wr (wr (wr (wr (20 * t) * s) + wr (40 * s)) + wr (250 * t)) + 300))
def lst (t s : Int) : Int := wr ((if wr (wr (s - 5) - wr (6 * t)) > 0 then wr (wr (s - 5) - wr (6 * t)) else 0).tdiv 2)

def g186 : List A0 → Option A0
  | [.b (.c (.v (.int .i64 n))), .b (.c (.v (.int .i64 lo))), .b (.c (.v (.int .i64 hi)))] => some (b0 (inB n lo hi))
  | _ => none
def g131 : List A0 → Option A0
  | [.b (.agg [.v (.int .i64 t), .v (.int .i64 s), .v (.int .u64 m)])] => some (b0 (mayB t s m))
  | _ => none
def g28 : List A0 → Option A0
  | [.b (.agg [.v (.int .i64 t), .v (.int .i64 s), .v (.int .u64 m)])] => some (b0 (may5 t s m))
  | _ => none
def g74 : List A0 → Option A0
  | [.b (.agg [.v (.int .i64 t), .v (.int .i64 s), .v (.int .u64 m)])] => some (i0 (bif !mayB t s m then 0 else bnd t s))
  | _ => none
def g75 : List A0 → Option A0
  | [.b (.agg [.v (.int .i64 t), .v (.int .i64 s), .v (.int .u64 m)])] => some (i0 (bif !may5 t s m then 0 else bnd t s))
  | _ => none

def g76 : List A0 → Option A0
  | [.b (.agg [.v (.int .i64 t), .v (.int .i64 s), .v (.int .u64 m)])] => some (i0 (bif !mayB t s m then 0 else lst t s))
  | _ => none
def lst5 (t s : Int) : Int := wr ((wr (wr (s - 5) - wr (6 * t))).tdiv 2)
def g60 : List A0 → Option A0
  | [.b (.agg [.v (.int .i64 t), .v (.int .i64 s), .v (.int .u64 m)])] => some (i0 (bif !may5 t s m then 0 else bif decide (s < wr (5 + wr (6 * t))) then 0 else lst5 t s))
  | _ => none
def g59 : List A0 → Option A0
  | [.b (.c (.v (.pointer none)))] => some nilp
  | _ => none
def g47 : List A0 → Option A0
  | [.b (.c (.v (.pointer none))), .b (.c (.v (.int .i64 _)))] => some nilp
  | _ => none
def none0 : A0 := .tup [.c (.v (.int .i64 0)), .c (.v (.bool false))]
def g72 : List A0 → Option A0
  | [.b (.c (.v (.pointer none))), .b (.c (.v (.int .i64 _))), .b (.c (.v (.int .i64 _)))] => some none0
  | _ => none
def g73 : List A0 → Option A0
  | [.b (.c (.v (.pointer none))), .b (.c (.v (.int .i64 _)))] => some none0
  | _ => none
def g57 : List A0 → Option A0
  | [] => some (b0 true)
  | _ => none

noncomputable abbrev PP := Tryz.prog
theorem mixP : PP.follows .mixedOrders = true := by kernel_rfl
abbrev Tb := List (FuncId × Ent Empty Unit Unit)
def tA : Tb := [(186, .e0 g186)]
def tB : Tb := (131, .e0 g131) :: (28, .e0 g28) :: tA
def tC : Tb := (74, .e0 g74) :: (75, .e0 g75) :: (76, .e0 g76) :: (60, .e0 g60) :: (59, .e0 g59) :: (47, .e0 g47) :: tB
def tD : Tb := (57, .e0 g57) :: (73, .e0 g73) :: (72, .e0 g72) :: tC

theorem xin (n lo hi : Int) : xfun PP D0 (tabOf []) 3 Tryz.f186 [i0 n, i0 lo, i0 hi] () () = bif decide (n ≥ lo) then some (b0 (decide (n ≤ hi)), (), ()) else some (b0 false, (), ()) := by kernel_rfl
theorem ok186 : SpecOK E0 PP 186 (Ent.e0 g186).run := by
  refine spec_e0 mixP tabOK_nil Tryz.func186 3 fun th co args v h => ?_
  unfold g186 at h
  split at h
  · rename_i n lo hi
    have h := Option.some.inj h; subst h
    refine (xin n lo hi).trans ?_
    unfold inB
    cases decide (n ≥ lo) <;> rfl
  · exact absurd h (by simp)
theorem okA : TabOK E0 PP (tabOf tA) := tabOK_cons Tryz.call186 ok186 tabOK_nil

theorem xmay5 (t s m : Int) : xfun PP D0 (tabOf []) 3 Tryz.f28 [conf0 t s m] () () =
    bif decide (t > 0) then bif decide (t < 7) then bif decide (s > 6) then bif decide (s < 251) then bif decide (m > 0) then some (b0 (decide (m ≤ 1099511627776)), (), ()) else some (b0 false, (), ()) else some (b0 false, (), ()) else some (b0 false, (), ()) else some (b0 false, (), ()) else some (b0 false, (), ()) := by kernel_rfl
theorem ok28 : SpecOK E0 PP 28 (Ent.e0 g28).run := by
  refine spec_e0 mixP tabOK_nil Tryz.func28 3 fun th co args v h => ?_
  unfold g28 at h
  split at h
  · rename_i t s m
    have h := Option.some.inj h; subst h
    refine (xmay5 t s m).trans ?_
    unfold may5
    cases decide (t > 0) <;> cases decide (t < 7) <;> cases decide (s > 6) <;> cases decide (s < 251) <;> cases decide (m > 0) <;> rfl
  · exact absurd h (by simp)
theorem xmay (t s m : Int) : xfun PP D0 (tabOf tA) 3 Tryz.f131 [conf0 t s m] () () =
    bif inB t 1 6 then bif inB s 7 250 then bif decide (m ≥ 1) then some (b0 (decide (m ≤ 1099511627776)), (), ()) else some (b0 false, (), ()) else some (b0 false, (), ()) else some (b0 false, (), ()) := by kernel_rfl
theorem ok131 : SpecOK E0 PP 131 (Ent.e0 g131).run := by
  refine spec_e0 mixP okA Tryz.func131 3 fun th co args v h => ?_
  unfold g131 at h
  split at h
  · rename_i t s m
    have h := Option.some.inj h; subst h
    refine (xmay t s m).trans ?_
    unfold mayB
    cases inB t 1 6 <;> cases inB s 7 250 <;> cases decide (m ≥ 1) <;> rfl
  · exact absurd h (by simp)
theorem okB : TabOK E0 PP (tabOf tB) := tabOK_cons Tryz.call131 ok131 (tabOK_cons Tryz.call28 ok28 okA)

theorem x74 (t s m : Int) : xfun PP D0 (tabOf tB) 3 Tryz.f74 [conf0 t s m] () () = bif !mayB t s m then some (i0 0, (), ()) else some (i0 (bnd t s), (), ()) := by kernel_rfl
theorem ok74 : SpecOK E0 PP 74 (Ent.e0 g74).run := by
  refine spec_e0 mixP okB Tryz.func74 3 fun th co args v h => ?_
  unfold g74 at h
  split at h
  · rename_i t s m
    have h := Option.some.inj h; subst h
    refine (x74 t s m).trans ?_
    cases mayB t s m <;> rfl
  · exact absurd h (by simp)
theorem x75 (t s m : Int) : xfun PP D0 (tabOf tB) 3 Tryz.f75 [conf0 t s m] () () = bif !may5 t s m then some (i0 0, (), ()) else some (i0 (bnd t s), (), ()) := by kernel_rfl
theorem ok75 : SpecOK E0 PP 75 (Ent.e0 g75).run := by
  refine spec_e0 mixP okB Tryz.func75 3 fun th co args v h => ?_
  unfold g75 at h
  split at h
  · rename_i t s m
    have h := Option.some.inj h; subst h
    refine (x75 t s m).trans ?_
    cases may5 t s m <;> rfl
  · exact absurd h (by simp)
theorem x76 (t s m : Int) : xfun PP D0 (tabOf tB) 3 Tryz.f76 [conf0 t s m] () () = bif !mayB t s m then some (i0 0, (), ()) else some (i0 (lst t s), (), ()) := by kernel_rfl
theorem ok76 : SpecOK E0 PP 76 (Ent.e0 g76).run := by
  refine spec_e0 mixP okB Tryz.func76 3 fun th co args v h => ?_
  unfold g76 at h
  split at h
  · rename_i t s m
    have h := Option.some.inj h; subst h
    refine (x76 t s m).trans ?_
    cases mayB t s m <;> rfl
  · exact absurd h (by simp)
theorem x60 (t s m : Int) : xfun PP D0 (tabOf tB) 3 Tryz.f60 [conf0 t s m] () () =
    bif !may5 t s m then some (i0 0, (), ()) else bif decide (s < wr (5 + wr (6 * t))) then some (i0 0, (), ()) else some (i0 (lst5 t s), (), ()) := by kernel_rfl
theorem ok60 : SpecOK E0 PP 60 (Ent.e0 g60).run := by
  refine spec_e0 mixP okB Tryz.func60 3 fun th co args v h => ?_
  unfold g60 at h
  split at h
  · rename_i t s m
    have h := Option.some.inj h; subst h
    refine (x60 t s m).trans ?_
    cases may5 t s m <;> cases decide (s < wr (5 + wr (6 * t))) <;> rfl
  · exact absurd h (by simp)
theorem x59 : xfun PP D0 (tabOf []) 3 Tryz.f59 [nilp] () () = some (nilp, (), ()) := by kernel_rfl
theorem ok59 : SpecOK E0 PP 59 (Ent.e0 g59).run := by
  refine spec_e0 mixP tabOK_nil Tryz.func59 3 fun th co args v h => ?_
  unfold g59 at h
  split at h
  · have h := Option.some.inj h; subst h
    exact x59
  · exact absurd h (by simp)
theorem x47 (t : Int) : xfun PP D0 (tabOf []) 3 Tryz.f47 [nilp, i0 t] () () = some (nilp, (), ()) := by kernel_rfl
theorem ok47 : SpecOK E0 PP 47 (Ent.e0 g47).run := by
  refine spec_e0 mixP tabOK_nil Tryz.func47 3 fun th co args v h => ?_
  unfold g47 at h
  split at h
  · have h := Option.some.inj h; subst h
    exact x47 _
  · exact absurd h (by simp)
theorem okC : TabOK E0 PP (tabOf tC) :=
  tabOK_cons Tryz.call74 ok74 (tabOK_cons Tryz.call75 ok75 (tabOK_cons Tryz.call76 ok76 (tabOK_cons Tryz.call60 ok60 (tabOK_cons Tryz.call59 ok59 (tabOK_cons Tryz.call47 ok47 okB)))))
theorem x72 (t m : Int) : xfun PP D0 (tabOf tC) 3 Tryz.f72 [nilp, i0 t, i0 m] () () = some (none0, (), ()) := by kernel_rfl
theorem ok72 : SpecOK E0 PP 72 (Ent.e0 g72).run := by
  refine spec_e0 mixP okC Tryz.func72 3 fun th co args v h => ?_
  unfold g72 at h
  split at h
  · have h := Option.some.inj h; subst h
    exact x72 _ _
  · exact absurd h (by simp)
theorem x73 (m : Int) : xfun PP D0 (tabOf tC) 3 Tryz.f73 [nilp, i0 m] () () = some (none0, (), ()) := by kernel_rfl
theorem ok73 : SpecOK E0 PP 73 (Ent.e0 g73).run := by
  refine spec_e0 mixP okC Tryz.func73 3 fun th co args v h => ?_
  unfold g73 at h
  split at h
  · have h := Option.some.inj h; subst h
    exact x73 _
  · exact absurd h (by simp)
theorem x57 : xfun PP D0 (tabOf tC) 3 Tryz.f57 [] () () = some (b0 true, (), ()) := by kernel_rfl
theorem ok57 : SpecOK E0 PP 57 (Ent.e0 g57).run := by
  refine spec_e0 mixP okC Tryz.func57 3 fun th co args v h => ?_
  unfold g57 at h
  split at h
  · have h := Option.some.inj h; subst h
    exact x57
  · exact absurd h (by simp)
theorem okD : TabOK E0 PP (tabOf tD) := tabOK_cons Tryz.call57 ok57 (tabOK_cons Tryz.call73 ok73 (tabOK_cons Tryz.call72 ok72 okC))

def bndI (t s m : Int) : Int := bif !mayB t s m then 0 else bnd t s
def bndR (t s m : Int) : Int := bif !may5 t s m then 0 else bnd t s
def lstI (t s m : Int) : Int := bif !mayB t s m then 0 else lst t s
def lstR (t s m : Int) : Int := bif !may5 t s m then 0 else bif decide (s < wr (5 + wr (6 * t))) then 0 else lst5 t s
theorem x10 (t s m a b : Int) : xfun PP D0 (tabOf tD) 3 Tryz.f10 [conf0 t s m, i0 a, i0 b] () () =
    bif (bndI t s m == bndR t s m) then bif (lstI t s m == lstR t s m) then some (b0 true, (), ()) else some (b0 false, (), ()) else some (b0 false, (), ()) := by kernel_rfl
end Go.Proofs.YtacdiahgohiilaaGreat
