/- What carillonlaw08.IvalAll tells in numbers is true, whatever the intervals and the numbers. -/
import Derived.Test.YthgfdghccadpmaaAllWalk
namespace Go.Proofs.Ythgfdghccadpmaa.PureAll
open Go.RowKit Go.Proofs.Ythgfdghccadpmaa.PIvalAll Go.Proofs.Ythgfdghccadpmaa.AllWalk Go.Proofs.YthgfdghccadpmaaW.PrintWords Go.Proofs.YthgfdghccadpmaaW.PrintLast Go.Proofs.YthgfdghccadpmaaW.PrintMore
def R (a b : Int) : Prop := a ≤ b ∧ -1099511627776 ≤ a ∧ b ≤ 1099511627776
instance (a b : Int) : Decidable (R a b) := by unfold R; infer_instance
theorem right_eq (a b : Int) : ival_Right.f a b = some (decide (R a b)) := by
  unfold ival_Right.f R
  by_cases h1 : a ≤ b
  · by_cases h2 : a ≥ -1099511627776
    · rw [if_pos h1, if_pos h2]; simp [h1, h2]
    · rw [if_pos h1, if_neg h2]; simp [h2]
  · rw [if_neg h1]; simp [h1]
theorem holds_eq (a b n : Int) : ival_Holds.f a b n = some (decide (R a b ∧ a ≤ n ∧ n ≤ b)) := by
  unfold ival_Holds.f
  rw [right_eq]
  by_cases h : R a b
  · by_cases h2 : a ≤ n
    · simp [h, h2]
    · simp [h2]
  · simp [h]
theorem awake_true : carillonlaw08_awake.f = some true := by
  unfold carillonlaw08_awake.f; rw [holds_eq, decide_eq_true (by unfold R; omega)]; rfl
theorem made_eq (a b e : Int) : ival_made.f a b e = if R a b then some (a, b, 0) else some (0, 0, e) := by
  unfold ival_made.f; rw [right_eq]; by_cases h : R a b <;> simp [h]
theorem make_eq (a b : Int) : ival_Make.f a b = if R a b then some (a, b, 0) else some (0, 0, 1) := by
  unfold ival_Make.f; rw [made_eq]; by_cases h : R a b <;> simp [h]
theorem rright_eq (a b : Int) : carillonref08_Right.f a b = some (decide (R a b)) := by
  unfold carillonref08_Right.f R
  by_cases h1 : a ≤ b
  · by_cases h2 : a ≥ -1099511627776
    · rw [if_pos h2, if_pos h1]; simp [h1, h2]
    · rw [if_neg h2]; simp [h2]
  · by_cases h2 : a ≥ -1099511627776
    · rw [if_pos h2, if_neg h1]; simp [h1]
    · rw [if_neg h2]; simp [h2]
theorem rmake_eq (a b : Int) : carillonref08_Make.f a b = if R a b then some (a, b, 0) else some (0, 0, 1) := by
  unfold carillonref08_Make.f; rw [rright_eq]; by_cases h : R a b <;> simp [h]
theorem w64 {n : Int} (h0 : -9223372036854775808 ≤ n) (h1 : n ≤ 9223372036854775807) : wrap64 n = n := by unfold wrap64; omega
theorem may_in (a d : Int) (h0 : 0 ≤ d) (h1 : d ≤ 49) (h2 : 0 ≤ a) (h3 : a ≤ 1099511627776) : rate_may.f a d = some true := by
  unfold rate_may.f; rw [if_pos h0, if_pos h1, if_pos h2, decide_eq_true h3]
theorem may_out (a d : Int) (h : ¬ (0 ≤ d ∧ d ≤ 49 ∧ 0 ≤ a ∧ a ≤ 1099511627776)) : rate_may.f a d = some false := by
  unfold rate_may.f
  split
  · split
    · split
      · rw [decide_eq_false (by omega)]
      · rfl
    · rfl
  · rfl
theorem ends_in (d : Int) (h0 : 0 ≤ d) (h1 : d ≤ 49) : rate_ends.f d = some (100 - d, 100 + d) := by
  unfold rate_ends.f; rw [w64 (by omega) (by omega), w64 (by omega) (by omega)]
def up (a b : Int) : Int := if a % b = 0 then a / b else a / b + 1
theorem div_bd (a b : Int) (h0 : 0 ≤ a) (hb : 0 < b) : 0 ≤ a / b ∧ a / b ≤ a := ⟨Int.ediv_nonneg h0 (by omega), Int.ediv_le_self _ h0⟩
theorem quot_down (a b : Int) (h0 : 0 ≤ a) (h1 : a ≤ 1000000000000000000) (hb : 0 < b) : rate_quotient_int64.f a b 0 = some (a / b) := by
  have h := div_bd a b h0 hb
  unfold rate_quotient_int64.f
  rw [if_neg (by omega), if_neg (by omega), Int.tdiv_eq_ediv_of_nonneg h0, w64 (by omega) (by omega)]
theorem quot_up (a b : Int) (h0 : 0 ≤ a) (h1 : a ≤ 1000000000000000000) (hb : 0 < b) : rate_quotient_int64.f a b 1 = some (up a b) := by
  have h := div_bd a b h0 hb
  unfold rate_quotient_int64.f up
  rw [if_neg (by omega), if_pos rfl, Int.tdiv_eq_ediv_of_nonneg h0, Int.tmod_eq_emod_of_nonneg h0, w64 (n := a / b) (by omega) (by omega), w64 (by omega) (by omega)]
  split <;> rfl
theorem mul_bd (a x : Int) (h2 : 0 ≤ a) (h3 : a ≤ 1099511627776) (hx0 : 0 ≤ x) (hx : x ≤ 149) : 0 ≤ a * x ∧ a * x ≤ 1000000000000000 := by
  have h1 := Int.mul_nonneg h2 hx0
  have h4 := Int.mul_le_mul h3 hx hx0 (by omega)
  omega
theorem most_in (a d : Int) (h0 : 0 ≤ d) (h1 : d ≤ 49) (h2 : 0 ≤ a) (h3 : a ≤ 1099511627776) : rate_Most.f a d = some (a * (100 + d) / (100 - d), 0) := by
  have hb := mul_bd a (100 + d) h2 h3 (by omega) (by omega)
  unfold rate_Most.f
  rw [may_in a d h0 h1 h2 h3, ends_in d h0 h1]
  simp only [Option.bind_some, if_true]
  rw [w64 (by omega) (by omega), quot_down _ _ hb.1 (by omega) (by omega)]
  rfl
theorem most_out (a d : Int) (h : ¬ (0 ≤ d ∧ d ≤ 49 ∧ 0 ≤ a ∧ a ≤ 1099511627776)) : rate_Most.f a d = some (0, 1) := by
  unfold rate_Most.f; rw [may_out a d h]; rfl
theorem least_in (a d : Int) (h0 : 0 ≤ d) (h1 : d ≤ 49) (h2 : 0 ≤ a) (h3 : a ≤ 1099511627776) : rate_Least.f a d = some (up (a * (100 - d)) (100 + d), 0) := by
  have hb := mul_bd a (100 - d) h2 h3 (by omega) (by omega)
  unfold rate_Least.f
  rw [may_in a d h0 h1 h2 h3, ends_in d h0 h1]
  simp only [Option.bind_some, if_true]
  rw [w64 (by omega) (by omega), quot_up _ _ hb.1 (by omega) (by omega)]
  rfl
theorem least_out (a d : Int) (h : ¬ (0 ≤ d ∧ d ≤ 49 ∧ 0 ≤ a ∧ a ≤ 1099511627776)) : rate_Least.f a d = some (0, 1) := by
  unfold rate_Least.f; rw [may_out a d h]; rfl
theorem most_sub (a d : Int) (h1 : d ≤ 49) : a * (100 + d) / (100 - d) - a = 2 * d * a / (100 - d) := by
  have e : a * (100 + d) = 2 * d * a + a * (100 - d) := by
    rw [Int.mul_add, Int.mul_sub, Int.mul_assoc 2 d a, Int.mul_comm d a]; omega
  rw [e, Int.add_mul_ediv_right _ _ (by omega)]; omega
theorem least_sub (a d : Int) (h0 : 0 ≤ d) : a - up (a * (100 - d)) (100 + d) = 2 * d * a / (100 + d) := by
  have e : 2 * d * a = a * (100 + d) - a * (100 - d) := by
    rw [Int.mul_add, Int.mul_sub, Int.mul_assoc 2 d a, Int.mul_comm d a]; omega
  have hy : (0 : Int) < 100 + d := by omega
  generalize hp : a * (100 - d) = p at *
  generalize hyy : 100 + d = y at *
  have hdm := Int.mul_ediv_add_emod p y
  have hm0 := Int.emod_nonneg p (show y ≠ 0 by omega)
  have hm1 := Int.emod_lt_of_pos p hy
  unfold up
  rw [e]
  split
  · rename_i hz
    have e2 : a * y - p = 0 + (a - p / y) * y := by rw [Int.sub_mul, Int.mul_comm (p / y) y]; omega
    rw [e2, Int.add_mul_ediv_right _ _ (by omega)]; simp
  · rename_i hz
    have e2 : a * y - p = (y - p % y) + (a - p / y - 1) * y := by rw [Int.sub_mul, Int.sub_mul, Int.mul_comm (p / y) y]; omega
    rw [e2, Int.add_mul_ediv_right _ _ (by omega), Int.ediv_eq_zero_of_lt (a := y - p % y) (b := y) (by omega) (by omega)]; omega
def spr (a d : Int) : Int := max (2 * d * a / (100 - d)) (2 * d * a / (100 + d))
theorem spr_bd (a d : Int) (h0 : 0 ≤ d) (h1 : d ≤ 49) (h2 : 0 ≤ a) (h3 : a ≤ 1099511627776) : 0 ≤ 2 * d * a / (100 - d) ∧ 2 * d * a / (100 - d) ≤ 1000000000000000 ∧ 0 ≤ 2 * d * a / (100 + d) ∧ 2 * d * a / (100 + d) ≤ 1000000000000000 := by
  have hb := mul_bd a (2 * d) h2 h3 (by omega) (by omega)
  rw [Int.mul_comm a] at hb
  have x1 := div_bd (2 * d * a) (100 - d) hb.1 (by omega)
  have x2 := div_bd (2 * d * a) (100 + d) hb.1 (by omega)
  omega
theorem spread_in (a d : Int) (h0 : 0 ≤ d) (h1 : d ≤ 49) (h2 : 0 ≤ a) (h3 : a ≤ 1099511627776) : rate_Spread.f a d = some (spr a d, 0) := by
  have hb := spr_bd a d h0 h1 h2 h3
  unfold rate_Spread.f
  rw [most_in a d h0 h1 h2 h3, least_in a d h0 h1 h2 h3]
  simp only [Option.bind_some, if_true]
  rw [most_sub a d h1, least_sub a d h0, w64 (by omega) (by omega), w64 (by omega) (by omega)]
  unfold spr mx
  congr 2; split <;> omega
theorem spread_out (a d : Int) (h : ¬ (0 ≤ d ∧ d ≤ 49 ∧ 0 ≤ a ∧ a ≤ 1099511627776)) : rate_Spread.f a d = some (0, 1) := by
  unfold rate_Spread.f; rw [most_out a d h]; rfl
theorem spr_mono (a b d : Int) (h0 : 0 ≤ d) (h1 : d ≤ 49) (h : a ≤ b) : spr a d ≤ spr b d := by
  have hm : 2 * d * a ≤ 2 * d * b := Int.mul_le_mul_of_nonneg_left h (by omega)
  have x1 := Int.ediv_le_ediv (show (0 : Int) < 100 - d by omega) hm
  have x2 := Int.ediv_le_ediv (show (0 : Int) < 100 + d by omega) hm
  unfold spr; omega
theorem spr_nonneg (a d : Int) (h0 : 0 ≤ d) (h1 : d ≤ 49) (h2 : 0 ≤ a) (h3 : a ≤ 1099511627776) : 0 ≤ spr a d := by
  have := spr_bd a d h0 h1 h2 h3; unfold spr; omega
theorem up_le (p y b : Int) (hy : 0 < y) (h : p ≤ b * y) : up p y ≤ b := by
  have hdm := Int.mul_ediv_add_emod p y
  have hm0 := Int.emod_nonneg p (show y ≠ 0 by omega)
  unfold up
  split
  · exact Int.le_of_mul_le_mul_right (a := y) (by rw [Int.mul_comm (p / y)]; omega) hy
  · have : p / y < b := Int.lt_of_mul_lt_mul_right (a := y) (by rw [Int.mul_comm (p / y)]; omega) (by omega)
    omega
theorem rmay (a d : Int) : carillonref07_may.f a d = rate_may.f a d := rfl
theorem rup (a b : Int) (h0 : 0 ≤ a) (h1 : a ≤ 1000000000000000000) (hb : 0 < b) : carillonref07_up.f a b = some (up a b) := by
  have h := div_bd a b h0 hb
  have hdm := Int.mul_ediv_add_emod a b
  have hm0 := Int.emod_nonneg a (show b ≠ 0 by omega)
  have hm : 0 ≤ a / b * b := Int.mul_nonneg h.1 (by omega)
  rw [Int.mul_comm] at hdm
  unfold carillonref07_up.f up
  rw [if_neg (by omega), Int.tdiv_eq_ediv_of_nonneg h0, w64 (n := a / b) (by omega) (by omega), w64 (n := a / b * b) (by omega) (by omega), w64 (n := a / b + 1) (by omega) (by omega)]
  by_cases hz : a % b = 0
  · rw [if_neg (by omega), if_pos hz]
  · rw [if_pos (by omega), if_neg hz]
theorem rmost (a d : Int) (h0 : 0 ≤ d) (h1 : d ≤ 49) (h2 : 0 ≤ a) (h3 : a ≤ 1099511627776) : carillonref07_Most.f a d = some (a * (100 + d) / (100 - d), 0) := by
  have hb := mul_bd a (100 + d) h2 h3 (by omega) (by omega)
  have hq := div_bd (a * (100 + d)) (100 - d) hb.1 (by omega)
  unfold carillonref07_Most.f
  rw [rmay, may_in a d h0 h1 h2 h3, w64 (n := 100 - d) (by omega) (by omega), w64 (n := 100 + d) (by omega) (by omega)]
  simp only [Option.bind_some, if_true]
  rw [if_neg (by omega), w64 (n := a * (100 + d)) (by omega) (by omega), Int.tdiv_eq_ediv_of_nonneg hb.1, w64 (by omega) (by omega)]
theorem rleast (a d : Int) (h0 : 0 ≤ d) (h1 : d ≤ 49) (h2 : 0 ≤ a) (h3 : a ≤ 1099511627776) : carillonref07_Least.f a d = some (up (a * (100 - d)) (100 + d), 0) := by
  have hb := mul_bd a (100 - d) h2 h3 (by omega) (by omega)
  unfold carillonref07_Least.f
  rw [rmay, may_in a d h0 h1 h2 h3, w64 (n := 100 - d) (by omega) (by omega), w64 (n := 100 + d) (by omega) (by omega)]
  simp only [Option.bind_some, if_true]
  rw [w64 (n := a * (100 - d)) (by omega) (by omega), rup _ _ hb.1 (by omega) (by omega)]; rfl
theorem rspread (a d : Int) (h0 : 0 ≤ d) (h1 : d ≤ 49) (h2 : 0 ≤ a) (h3 : a ≤ 1099511627776) : carillonref07_Spread.f a d = some (spr a d, 0) := by
  have hb := spr_bd a d h0 h1 h2 h3
  unfold carillonref07_Spread.f
  rw [rmost a d h0 h1 h2 h3, rleast a d h0 h1 h2 h3]
  simp only [Option.bind_some, if_true]
  rw [most_sub a d h1, least_sub a d h0, w64 (by omega) (by omega), w64 (by omega) (by omega)]
  unfold spr mx
  congr 2; split <;> omega
theorem meet_eq (a b c d : Int) : ival_Meet.f a b c d = if R a b ∧ R c d then (if mx a c ≤ mn b d then some (mx a c, mn b d, 0) else some (0, 0, 6)) else some (0, 0, 1) := by
  unfold ival_Meet.f ival_both.f
  rw [right_eq, right_eq]
  by_cases h : R a b
  · by_cases h2 : R c d
    · have e : R (mx a c) (mn b d) ↔ mx a c ≤ mn b d := by unfold R mx mn at *; constructor <;> intro h3 <;> (try split at h3) <;> (try split at h3) <;> (try split) <;> (try split) <;> omega
      by_cases h3 : mx a c ≤ mn b d
      · have h4 := e.2 h3; simp [h, h2, h3, made_eq, h4]
      · have h4 : ¬ R (mx a c) (mn b d) := fun x => h3 (e.1 x)
        simp [h, h2, h3, made_eq, h4]
    · simp [h, h2]
  · simp [h]
theorem hull_eq (a b c d : Int) (h : R a b) (h2 : R c d) : ival_Hull.f a b c d = some (mn a c, mx b d, 0) := by
  have h3 : R (mn a c) (mx b d) := by unfold R mx mn at *; split <;> split <;> omega
  unfold ival_Hull.f ival_both.f
  rw [right_eq, right_eq, make_eq]
  simp [h, h2, h3]
theorem hull_out (a b c d : Int) (h : ¬ (R a b ∧ R c d)) : ival_Hull.f a b c d = some (0, 0, 1) := by
  unfold ival_Hull.f ival_both.f
  rw [right_eq, right_eq]
  by_cases h1 : R a b
  · have h2 : ¬ R c d := fun x => h ⟨h1, x⟩
    simp [h1, h2]
  · simp [h1]
theorem rholds_eq (a b n : Int) : carillonref08_Holds.f a b n = ival_Holds.f a b n := by
  unfold carillonref08_Holds.f ival_Holds.f; rw [rright_eq, right_eq]
theorem rmeet_eq (k : Nat) (a b c d : Int) : carillonref08_Meet.f (k + 1) a b c d = ival_Meet.f a b c d := by
  rw [meet_eq]
  unfold carillonref08_Meet.f
  rw [rright_eq, rright_eq]
  by_cases h : R a b
  · by_cases h2 : R c d
    · have e : R (mx a c) (mn b d) ↔ mx a c ≤ mn b d := by unfold R mx mn at *; constructor <;> intro h3 <;> (try split at h3) <;> (try split at h3) <;> (try split) <;> (try split) <;> omega
      by_cases h3 : mx a c ≤ mn b d
      · have h4 := e.2 h3; simp [h, h2, h3, rmake_eq, h4, carillonref08_Meet.j0]
      · have h4 : ¬ R (mx a c) (mn b d) := fun x => h3 (e.1 x)
        simp [h, h2, h3, rmake_eq, h4, carillonref08_Meet.j0]
    · simp [h, h2, carillonref08_Meet.j0]
  · simp [h, carillonref08_Meet.j0]
theorem meet_some (a b c d : Int) : ∃ x y z, ival_Meet.f a b c d = some (x, y, z) := by
  rw [meet_eq]; split
  · split <;> exact ⟨_, _, _, rfl⟩
  · exact ⟨_, _, _, rfl⟩
theorem hull_some (a b c d : Int) : ∃ x y z, ival_Hull.f a b c d = some (x, y, z) := by
  by_cases h : R a b ∧ R c d
  · rw [hull_eq a b c d h.1 h.2]; exact ⟨_, _, _, rfl⟩
  · rw [hull_out a b c d h]; exact ⟨_, _, _, rfl⟩
theorem rhull_eq (a b c d : Int) : carillonref08_Hull.f a b c d = ival_Hull.f a b c d := by
  unfold carillonref08_Hull.f ival_Hull.f ival_both.f
  rw [rright_eq, rright_eq, right_eq, right_eq, rmake_eq, make_eq]
  by_cases h : R a b <;> by_cases h2 : R c d <;> simp [h, h2]
theorem rshift_eq (a b n : Int) : carillonref08_Shift.f a b n = ival_Shift.f a b n := by
  unfold carillonref08_Shift.f ival_Shift.f
  rw [rright_eq, right_eq, rmake_eq, make_eq]
theorem shift_some (a b n : Int) : ∃ x y z, ival_Shift.f a b n = some (x, y, z) := by
  unfold ival_Shift.f
  rw [right_eq, make_eq, Option.bind_some]
  split
  · split
    · exact ⟨_, _, _, rfl⟩
    · split
      · exact ⟨_, _, _, rfl⟩
      · split <;> exact ⟨_, _, _, rfl⟩
  · exact ⟨_, _, _, rfl⟩
theorem spread_same (a d : Int) : ∃ x y, rate_Spread.f a d = some (x, y) ∧ carillonref07_Spread.f a d = some (x, y) := by
  by_cases h : 0 ≤ d ∧ d ≤ 49 ∧ 0 ≤ a ∧ a ≤ 1099511627776
  · obtain ⟨h0, h1, h2, h3⟩ := h
    exact ⟨_, _, spread_in a d h0 h1 h2 h3, rspread a d h0 h1 h2 h3⟩
  · refine ⟨_, _, spread_out a d h, ?_⟩
    have e1 : carillonref07_Most.f a d = some (0, 1) := by unfold carillonref07_Most.f; rw [rmay, may_out a d h]; rfl
    have e2 : carillonref07_Least.f a d = some (0, 1) := by unfold carillonref07_Least.f; rw [rmay, may_out a d h]; rfl
    unfold carillonref07_Spread.f; rw [e1, e2]; rfl
theorem grow_same (a b t d : Int) : ∃ x y z, ival_Grow.f a b t d = some (x, y, z) ∧ carillonref08_Grow.f a b t d = some (x, y, z) := by
  obtain ⟨x, y, h1, h2⟩ := spread_same t d
  have e : carillonref08_Grow.f a b t d = ival_Grow.f a b t d := by
    unfold carillonref08_Grow.f ival_Grow.f
    rw [h1, h2]; simp only [Option.bind_some]
    rw [rright_eq, right_eq, rmake_eq, make_eq]
  rw [e]
  unfold ival_Grow.f
  rw [h1, right_eq, Option.bind_some, make_eq]
  split
  · rw [Option.bind_some]
    split
    · split <;> exact ⟨_, _, _, rfl, rfl⟩
    · exact ⟨_, _, _, rfl, rfl⟩
  · exact ⟨_, _, _, rfl, rfl⟩
theorem middle_same (a b : Int) : ∃ x y, ival_Middle.f a b = some (x, y) ∧ carillonref08_Middle.f a b = some (x, y) := by
  unfold ival_Middle.f carillonref08_Middle.f
  rw [right_eq, rright_eq, Option.bind_some]
  split <;> exact ⟨_, _, rfl, rfl⟩
theorem inside_same (a b n : Int) (h0 : -9223372036854775808 ≤ n) (h1 : n ≤ 9223372036854775807) : ∃ x, ival_Inside.f a b n = some x ∧ carillonref08_Inside.f a b n = some x := by
  unfold ival_Inside.f carillonref08_Inside.f
  rw [right_eq, rright_eq, Option.bind_some, Option.bind_some]
  by_cases h : R a b
  · have hr := h
    unfold R at hr
    simp only [decide_eq_true h, if_true]
    by_cases hn : n < 0
    · rw [if_pos hn, if_neg (by omega)]; exact ⟨_, rfl, rfl⟩
    · have hm : 0 ≤ mn n 1099511627776 ∧ mn n 1099511627776 ≤ 1099511627776 := by unfold mn; split <;> omega
      rw [if_neg hn, w64 (n := -n) (by omega) (by omega), w64 (n := -mn n 1099511627776) (by omega) (by omega), if_pos (show n ≥ 0 by omega)]
      by_cases hb : b ≤ n
      · rw [if_pos hb]
        by_cases hg : n > 1099511627776
        · have e : mn n 1099511627776 = 1099511627776 := by unfold mn; rw [if_pos hg]
          rw [if_pos hg, e, if_pos (by omega)]; exact ⟨_, rfl, by rw [decide_eq_true (by omega)]⟩
        · have e : mn n 1099511627776 = n := by unfold mn; split <;> omega
          rw [if_neg hg, e]
          by_cases ha : a ≥ -n
          · rw [if_pos ha]; exact ⟨_, rfl, by rw [decide_eq_true hb, decide_eq_true ha]⟩
          · rw [if_neg ha]; exact ⟨_, rfl, by rw [decide_eq_false ha]⟩
      · rw [if_neg hb]
        have e : mn n 1099511627776 = n := by unfold mn; split <;> omega
        rw [e]
        split
        · exact ⟨_, rfl, by rw [decide_eq_false hb]⟩
        · exact ⟨_, rfl, rfl⟩
  · simp [h]
theorem IvalAll (a b c d n t e : Int) (h0 : -9223372036854775808 ≤ n) (h1 : n ≤ 9223372036854775807) : carillonlaw08_IvalAll.f 1 a b c d n t e = some true := by
  obtain ⟨m1, m2, m3, em⟩ := meet_some a b c d
  obtain ⟨u1, u2, u3, eu⟩ := hull_some a b c d
  obtain ⟨s1, s2, s3, es⟩ := shift_some a b n
  obtain ⟨g1, g2, g3, eg, eg'⟩ := grow_same a b t e
  obtain ⟨i1, i2, ei, ei'⟩ := middle_same a b
  obtain ⟨x, ex, ex'⟩ := inside_same a b n h0 h1
  unfold carillonlaw08_IvalAll.f
  rw [show (1 : Nat) = 0 + 1 from rfl, rmeet_eq, rhull_eq, rshift_eq, em, eu, es, eg, eg', ei, ei']
  simp only [Option.bind_some, beq_self_eq_true, Bool.not_true, Bool.or_self, Bool.false_eq_true, if_false, if_true, bne_self_eq_false, carillonlaw08_IvalAll.j0]
  rw [rright_eq, right_eq, rholds_eq, holds_eq, ex, ex']
  simp [awake_true]

end Go.Proofs.Ythgfdghccadpmaa.PureAll
