/- For every two numbers carillonlaw08.IvalMakes returns true and leaves its arguments as they were; no condition. -/
import Derived.Test.YthgfdghccadpmaaPIvalMakesx2
namespace Go.Proofs.Ythgfdghccadpmaa.Pure
open Go.RowKit Go.Proofs.Ythgfdghccadpmaa.PIvalMakes Go.Proofs.YthgfdghccadpmaaW.PrintWords Go.Proofs.YthgfdghccadpmaaW.PrintLast Go.Proofs.YthgfdghccadpmaaW.PrintMore
def R (a b : Int) : Prop := a ≤ b ∧ -1099511627776 ≤ a ∧ b ≤ 1099511627776
instance (a b : Int) : Decidable (R a b) := by unfold R; infer_instance
theorem right_eq (a b : Int) : ival_Right.f a b = some (decide (R a b)) := by
  unfold ival_Right.f R
  by_cases h1 : a ≤ b
  · by_cases h2 : a ≥ -1099511627776
    · rw [if_pos h1, if_pos h2]; simp [h1, h2]
    · rw [if_pos h1, if_neg h2]; simp [h2]
  · rw [if_neg h1]; simp [h1]
theorem holds_eq (a b n : Int) : ival_Holds.f a b n = some (decide (R a b ∧ a ≤ n ∧ n ≤ b)) := by
  unfold ival_Holds.f
  rw [right_eq]
  by_cases h : R a b
  · by_cases h2 : a ≤ n
    · simp [h, h2]
    · simp [h2]
  · simp [h]
theorem awake_true : carillonlaw08_awake.f = some true := by
  unfold carillonlaw08_awake.f; rw [holds_eq, decide_eq_true (by unfold R; omega)]; rfl
theorem made_eq (a b e : Int) : ival_made.f a b e = if R a b then some (a, b, 0) else some (0, 0, e) := by
  unfold ival_made.f; rw [right_eq]; by_cases h : R a b <;> simp [h]
theorem make_eq (a b : Int) : ival_Make.f a b = if R a b then some (a, b, 0) else some (0, 0, 1) := by
  unfold ival_Make.f; rw [made_eq]; by_cases h : R a b <;> simp [h]
theorem rright_eq (a b : Int) : carillonref08_Right.f a b = some (decide (R a b)) := by
  unfold carillonref08_Right.f R
  by_cases h1 : a ≤ b
  · by_cases h2 : a ≥ -1099511627776
    · rw [if_pos h2, if_pos h1]; simp [h1, h2]
    · rw [if_neg h2]; simp [h2]
  · by_cases h2 : a ≥ -1099511627776
    · rw [if_pos h2, if_neg h1]; simp [h1]
    · rw [if_neg h2]; simp [h2]
theorem rmake_eq (a b : Int) : carillonref08_Make.f a b = if R a b then some (a, b, 0) else some (0, 0, 1) := by
  unfold carillonref08_Make.f; rw [rright_eq]; by_cases h : R a b <;> simp [h]
theorem IvalMakes : carillonlaw08_IvalMakes.Pure := by
  intro a b _ _
  unfold carillonlaw08_IvalMakes.f
  rw [make_eq, rmake_eq]
  by_cases h : R a b <;> simp [h, awake_true]

end Go.Proofs.Ythgfdghccadpmaa.Pure
