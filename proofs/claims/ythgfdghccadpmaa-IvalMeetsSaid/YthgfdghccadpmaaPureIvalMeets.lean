/- What carillonlaw08.IvalMeets tells in numbers is true, whatever the intervals and the number. -/
import Derived.Test.YthgfdghccadpmaaPIvalMeetsx3
namespace Go.Proofs.Ythgfdghccadpmaa.PureMeets
open Go.RowKit Go.Proofs.Ythgfdghccadpmaa.PIvalMeets Go.Proofs.YthgfdghccadpmaaW.PrintWords Go.Proofs.YthgfdghccadpmaaW.PrintLast Go.Proofs.YthgfdghccadpmaaW.PrintMore
def R (a b : Int) : Prop := a ≤ b ∧ -1099511627776 ≤ a ∧ b ≤ 1099511627776
instance (a b : Int) : Decidable (R a b) := by unfold R; infer_instance
theorem right_eq (a b : Int) : ival_Right.f a b = some (decide (R a b)) := by
  unfold ival_Right.f R
  by_cases h1 : a ≤ b
  · by_cases h2 : a ≥ -1099511627776
    · rw [if_pos h1, if_pos h2]; simp [h1, h2]
    · rw [if_pos h1, if_neg h2]; simp [h2]
  · rw [if_neg h1]; simp [h1]
theorem holds_eq (a b n : Int) : ival_Holds.f a b n = some (decide (R a b ∧ a ≤ n ∧ n ≤ b)) := by
  unfold ival_Holds.f
  rw [right_eq]
  by_cases h : R a b
  · by_cases h2 : a ≤ n
    · simp [h, h2]
    · simp [h2]
  · simp [h]
theorem awake_true : carillonlaw08_awake.f = some true := by
  unfold carillonlaw08_awake.f; rw [holds_eq, decide_eq_true (by unfold R; omega)]; rfl
theorem made_eq (a b e : Int) : ival_made.f a b e = if R a b then some (a, b, 0) else some (0, 0, e) := by
  unfold ival_made.f; rw [right_eq]; by_cases h : R a b <;> simp [h]
theorem make_eq (a b : Int) : ival_Make.f a b = if R a b then some (a, b, 0) else some (0, 0, 1) := by
  unfold ival_Make.f; rw [made_eq]; by_cases h : R a b <;> simp [h]
theorem meet_eq (a b c d : Int) : ival_Meet.f a b c d = if R a b ∧ R c d then (if mx a c ≤ mn b d then some (mx a c, mn b d, 0) else some (0, 0, 6)) else some (0, 0, 1) := by
  unfold ival_Meet.f ival_both.f
  rw [right_eq, right_eq]
  by_cases h : R a b
  · by_cases h2 : R c d
    · have e : R (mx a c) (mn b d) ↔ mx a c ≤ mn b d := by unfold R mx mn at *; constructor <;> intro h3 <;> (try split at h3) <;> (try split at h3) <;> (try split) <;> (try split) <;> omega
      by_cases h3 : mx a c ≤ mn b d
      · have h4 := e.2 h3; simp [h, h2, h3, made_eq, h4]
      · have h4 : ¬ R (mx a c) (mn b d) := fun x => h3 (e.1 x)
        simp [h, h2, h3, made_eq, h4]
    · simp [h, h2]
  · simp [h]
theorem hull_eq (a b c d : Int) (h : R a b) (h2 : R c d) : ival_Hull.f a b c d = some (mn a c, mx b d, 0) := by
  have h3 : R (mn a c) (mx b d) := by unfold R mx mn at *; split <;> split <;> omega
  unfold ival_Hull.f ival_both.f
  rw [right_eq, right_eq, make_eq]
  simp [h, h2, h3]
theorem hull_out (a b c d : Int) (h : ¬ (R a b ∧ R c d)) : ival_Hull.f a b c d = some (0, 0, 1) := by
  unfold ival_Hull.f ival_both.f
  rw [right_eq, right_eq]
  by_cases h1 : R a b
  · have h2 : ¬ R c d := fun x => h ⟨h1, x⟩
    simp [h1, h2]
  · simp [h1]
theorem holds_in (a b n : Int) (h : R a b) (v : Bool) (hv : v = true ↔ (a ≤ n ∧ n ≤ b)) : ival_Holds.f a b n = some v := by
  rw [holds_eq]; congr 1; rw [Bool.eq_iff_iff, hv]; simp [h]
theorem IvalMeets (a b c d n : Int) : ∃ k, carillonlaw08_IvalMeets.f k a b c d n = some true := by
  refine ⟨2, ?_⟩
  unfold carillonlaw08_IvalMeets.f
  rw [meet_eq, right_eq, right_eq]
  by_cases h : R a b
  · by_cases h2 : R c d
    · rw [hull_eq a b c d h h2, if_pos ⟨h, h2⟩]
      have hh : R (mn a c) (mx b d) := by unfold R mx mn at *; split <;> split <;> omega
      obtain ⟨x, hx⟩ : ∃ x : Bool, x = true ↔ (a ≤ n ∧ n ≤ b) := ⟨decide (a ≤ n ∧ n ≤ b), by simp⟩
      obtain ⟨y, hy⟩ : ∃ x : Bool, x = true ↔ (c ≤ n ∧ n ≤ d) := ⟨decide (c ≤ n ∧ n ≤ d), by simp⟩
      obtain ⟨u, hu⟩ : ∃ x : Bool, x = true ↔ (mn a c ≤ n ∧ n ≤ mx b d) := ⟨decide (mn a c ≤ n ∧ n ≤ mx b d), by simp⟩
      have ex := holds_in a b n h x hx
      have ey := holds_in c d n h2 y hy
      have eu := holds_in _ _ n hh u hu
      by_cases h3 : mx a c ≤ mn b d
      · have hm : R (mx a c) (mn b d) := by unfold R mx mn at *; split at h3 <;> split at h3 <;> (try split) <;> (try split) <;> omega
        obtain ⟨v, hv⟩ : ∃ x : Bool, x = true ↔ (mx a c ≤ n ∧ n ≤ mn b d) := ⟨decide (mx a c ≤ n ∧ n ≤ mn b d), by simp⟩
        have ev := holds_in _ _ n hm v hv
        rw [if_pos h3]
        simp only [decide_eq_true h, decide_eq_true h2, Option.bind_some, if_true, Bool.not_true, carillonlaw08_IvalMeets.j0, carillonlaw08_IvalMeets.j1, ex, ey, eu, ev, awake_true, Bool.false_eq_true, if_false]
        have k1 : v = (x && y) := by
          rw [Bool.eq_iff_iff, hv, Bool.and_eq_true, hx, hy]; unfold mx mn; split <;> split <;> omega
        have k2 : x = true → u = true := by rw [hx, hu]; unfold mx mn; split <;> split <;> omega
        have k3 : y = true → u = true := by rw [hy, hu]; unfold mx mn; split <;> split <;> omega
        subst k1
        clear hx hy hu hv ex ey eu ev
        revert k2 k3
        cases x <;> cases y <;> cases u <;> simp
      · rw [if_neg h3]
        simp only [decide_eq_true h, decide_eq_true h2, Option.bind_some, if_true, Bool.not_true, carillonlaw08_IvalMeets.j0, carillonlaw08_IvalMeets.j1, ex, ey, eu, awake_true, Bool.false_eq_true, if_false]
        have k1 : (x && y) = false := by
          rw [Bool.eq_false_iff, ne_eq, Bool.and_eq_true, hx, hy]; unfold mx mn at h3; split at h3 <;> split at h3 <;> omega
        have k2 : x = true → u = true := by rw [hx, hu]; unfold mx mn; split <;> split <;> omega
        have k3 : y = true → u = true := by rw [hy, hu]; unfold mx mn; split <;> split <;> omega
        clear hx hy hu ex ey eu
        revert k1 k2 k3
        cases x <;> cases y <;> cases u <;> simp
    · rw [hull_out a b c d (fun x => h2 x.2), if_neg (fun x => h2 x.2)]
      simp [h, h2, carillonlaw08_IvalMeets.j0, awake_true]
  · rw [hull_out a b c d (fun x => h x.1), if_neg (fun x => h x.1)]
    simp [h, carillonlaw08_IvalMeets.j0, awake_true]

end Go.Proofs.Ythgfdghccadpmaa.PureMeets
