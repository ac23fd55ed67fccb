/- The plain law of the statement BoundWeight, for every input. -/
import Derived.Test.YtealjhngfhlpaaaPBoundWeightx2
namespace Go.Proofs.Ytealjhngfhlpaaa.Pure
open Go.RowKit Go.Proofs.Ytealjhngfhlpaaa.PBoundWeight Go.Proofs.YtealjhngfhlpaaaW.PrintWords Go.Proofs.YtealjhngfhlpaaaW.PrintLast Go.Proofs.YtealjhngfhlpaaaW.PrintMore
set_option linter.unusedVariables false
set_option linter.unusedSimpArgs false

theorem w64i {x : Int} (h0 : -9223372036854775808 ≤ x) (h1 : x ≤ 9223372036854775807) : wrap64 x = x := by unfold wrap64; omega
theorem weight_good (a b : Int) (k : Nat) (h0 : 0 ≤ a) (h1 : 0 ≤ b) (h2 : a ≤ 1048576) (h3 : b ≤ 1048576) : bound_Weight.f (k + 1) a b = some (6 * a + 21 * b) := by
  unfold bound_Weight.f
  rw [if_neg (by omega), if_neg (by omega), if_neg (by omega)]
  simp only [bound_Weight.j0]
  rw [if_neg (by simpa using h3), show blob_Count.f 120 = some 2 by decide +kernel, show blob_Count.f 1020 = some 17 by decide +kernel]
  simp only [Option.bind_some]
  rw [show wrap64 (4 + 2) = 6 by decide +kernel, show wrap64 (4 + 17) = 21 by decide +kernel, w64i (x := 6 * a) (by omega) (by omega), w64i (x := 21 * b) (by omega) (by omega), w64i (by omega) (by omega)]
theorem weight_bad (a b : Int) (k : Nat) (h : a < 0 ∨ b < 0 ∨ a > 1048576 ∨ b > 1048576) : bound_Weight.f (k + 1) a b = some 0 := by
  unfold bound_Weight.f
  have e : bound_Weight.j0 (k + 1) a b true = some 0 := by simp [bound_Weight.j0]
  by_cases h0 : a < 0
  · rw [if_pos h0, e]
  by_cases h1 : b < 0
  · rw [if_neg h0, if_pos h1, e]
  by_cases h2 : a > 1048576
  · rw [if_neg h0, if_neg h1, if_pos h2, e]
  · rw [if_neg h0, if_neg h1, if_neg h2, show decide (b > 1048576) = true from decide_eq_true (by omega), e]
theorem BoundWeight : bastillelaw33_BoundWeight.Pure := by
  intro a b _ _
  refine ⟨20, ?_⟩
  unfold bastillelaw33_BoundWeight.f
  rw [show bastillelaw33_awake.f 20 = some true by decide +kernel, weight_good 1 0 19 (by omega) (by omega) (by omega) (by omega), weight_good 0 1 19 (by omega) (by omega) (by omega) (by omega), weight_good 38 3 19 (by omega) (by omega) (by omega) (by omega)]
  simp only [Option.bind_some, if_true]
  rw [if_pos (by omega), if_pos (by omega)]
  simp only [bastillelaw33_BoundWeight.j0]
  rw [if_neg (by decide)]
  by_cases h0 : a < 0
  · rw [weight_bad a b 18 (by omega)]
    simp [h0]
  by_cases h1 : b < 0
  · rw [weight_bad a b 18 (by omega)]
    simp [h0, h1]
  by_cases h2 : a > 1048576
  · rw [weight_bad a b 18 (by omega)]
    simp [h0, h1, h2]
  by_cases h3 : b > 1048576
  · rw [weight_bad a b 18 (by omega)]
    simp [h0, h1, h2, h3]
  rw [weight_good a b 18 (by omega) (by omega) (by omega) (by omega)]
  simp only [Option.bind_some]
  rw [if_neg h0, if_neg h1, if_neg h2, if_neg h3, show (6 * 1 + 21 * 0 : Int) = 6 by omega, show (6 * 0 + 21 * 1 : Int) = 21 by omega, w64i (x := 6 * a) (by omega) (by omega), w64i (x := 21 * b) (by omega) (by omega), w64i (by omega) (by omega)]
  simp

end Go.Proofs.Ytealjhngfhlpaaa.Pure
