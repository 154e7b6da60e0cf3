/- For every two times and drifts, carillonlaw07.RateMore returns true and leaves its arguments as they were; no condition. -/
import Derived.Test.YtifliiplejbdfaaMoreWalk
import Derived.OpenShut
namespace Go.Proofs.Ytifliiplejbdfaa.Pure
open Go.RowKit Go.Proofs.Ytifliiplejbdfaa.MoreWalk Go.Proofs.Ytifliiplejbdfaa.PRateHolds Go.Proofs.YtifliiplejbdfaaW.PrintWords Go.Proofs.YtifliiplejbdfaaW.PrintLast Go.Proofs.YtifliiplejbdfaaW.PrintMore

theorem w64 {n : Int} (h0 : -9223372036854775808 ≤ n) (h1 : n ≤ 9223372036854775807) : wrap64 n = n := by unfold wrap64; omega
theorem may_in (a d : Int) (h0 : 0 ≤ d) (h1 : d ≤ 49) (h2 : 0 ≤ a) (h3 : a ≤ 1099511627776) : rate_may.f a d = some true := by
  unfold rate_may.f; rw [if_pos h0, if_pos h1, if_pos h2, decide_eq_true h3]
theorem may_out (a d : Int) (h : ¬ (0 ≤ d ∧ d ≤ 49 ∧ 0 ≤ a ∧ a ≤ 1099511627776)) : rate_may.f a d = some false := by
  unfold rate_may.f
  split
  · split
    · split
      · rw [decide_eq_false (by omega)]
      · rfl
    · rfl
  · rfl
theorem ends_in (d : Int) (h0 : 0 ≤ d) (h1 : d ≤ 49) : rate_ends.f d = some (100 - d, 100 + d) := by
  unfold rate_ends.f; rw [w64 (by omega) (by omega), w64 (by omega) (by omega)]
def up (a b : Int) : Int := if a % b = 0 then a / b else a / b + 1
theorem div_bd (a b : Int) (h0 : 0 ≤ a) (hb : 0 < b) : 0 ≤ a / b ∧ a / b ≤ a := ⟨Int.ediv_nonneg h0 (by omega), Int.ediv_le_self _ h0⟩
theorem quot_down (a b : Int) (h0 : 0 ≤ a) (h1 : a ≤ 1000000000000000000) (hb : 0 < b) : rate_quotient_int64.f a b 0 = some (a / b) := by
  have h := div_bd a b h0 hb
  unfold rate_quotient_int64.f
  rw [if_neg (by omega), if_neg (by omega), Int.tdiv_eq_ediv_of_nonneg h0, w64 (by omega) (by omega)]
theorem quot_up (a b : Int) (h0 : 0 ≤ a) (h1 : a ≤ 1000000000000000000) (hb : 0 < b) : rate_quotient_int64.f a b 1 = some (up a b) := by
  have h := div_bd a b h0 hb
  unfold rate_quotient_int64.f up
  rw [if_neg (by omega), if_pos rfl, Int.tdiv_eq_ediv_of_nonneg h0, Int.tmod_eq_emod_of_nonneg h0, w64 (n := a / b) (by omega) (by omega), w64 (by omega) (by omega)]
  split <;> rfl
theorem mul_bd (a x : Int) (h2 : 0 ≤ a) (h3 : a ≤ 1099511627776) (hx0 : 0 ≤ x) (hx : x ≤ 149) : 0 ≤ a * x ∧ a * x ≤ 1000000000000000 := by
  have h1 := Int.mul_nonneg h2 hx0
  have h4 := Int.mul_le_mul h3 hx hx0 (by omega)
  omega
theorem most_in (a d : Int) (h0 : 0 ≤ d) (h1 : d ≤ 49) (h2 : 0 ≤ a) (h3 : a ≤ 1099511627776) : rate_Most.f a d = some (a * (100 + d) / (100 - d), 0) := by
  have hb := mul_bd a (100 + d) h2 h3 (by omega) (by omega)
  unfold rate_Most.f
  rw [may_in a d h0 h1 h2 h3, ends_in d h0 h1]
  simp only [Option.bind_some, if_true]
  rw [w64 (by omega) (by omega), quot_down _ _ hb.1 (by omega) (by omega)]
  rfl
theorem most_out (a d : Int) (h : ¬ (0 ≤ d ∧ d ≤ 49 ∧ 0 ≤ a ∧ a ≤ 1099511627776)) : rate_Most.f a d = some (0, 1) := by
  unfold rate_Most.f; rw [may_out a d h]; rfl
theorem awake_true : carillonlaw07_awake.f = some true := by
  unfold carillonlaw07_awake.f; rw [most_in 200 3 (by omega) (by omega) (by omega) (by omega)]; rfl
theorem least_in (a d : Int) (h0 : 0 ≤ d) (h1 : d ≤ 49) (h2 : 0 ≤ a) (h3 : a ≤ 1099511627776) : rate_Least.f a d = some (up (a * (100 - d)) (100 + d), 0) := by
  have hb := mul_bd a (100 - d) h2 h3 (by omega) (by omega)
  unfold rate_Least.f
  rw [may_in a d h0 h1 h2 h3, ends_in d h0 h1]
  simp only [Option.bind_some, if_true]
  rw [w64 (by omega) (by omega), quot_up _ _ hb.1 (by omega) (by omega)]
  rfl
theorem least_out (a d : Int) (h : ¬ (0 ≤ d ∧ d ≤ 49 ∧ 0 ≤ a ∧ a ≤ 1099511627776)) : rate_Least.f a d = some (0, 1) := by
  unfold rate_Least.f; rw [may_out a d h]; rfl
theorem most_sub (a d : Int) (h1 : d ≤ 49) : a * (100 + d) / (100 - d) - a = 2 * d * a / (100 - d) := by
  have e : a * (100 + d) = 2 * d * a + a * (100 - d) := by
    rw [Int.mul_add, Int.mul_sub, Int.mul_assoc 2 d a, Int.mul_comm d a]; omega
  rw [e, Int.add_mul_ediv_right _ _ (by omega)]; omega
theorem least_sub (a d : Int) (h0 : 0 ≤ d) : a - up (a * (100 - d)) (100 + d) = 2 * d * a / (100 + d) := by
  have e : 2 * d * a = a * (100 + d) - a * (100 - d) := by
    rw [Int.mul_add, Int.mul_sub, Int.mul_assoc 2 d a, Int.mul_comm d a]; omega
  have hy : (0 : Int) < 100 + d := by omega
  generalize hp : a * (100 - d) = p at *
  generalize hyy : 100 + d = y at *
  have hdm := Int.mul_ediv_add_emod p y
  have hm0 := Int.emod_nonneg p (show y ≠ 0 by omega)
  have hm1 := Int.emod_lt_of_pos p hy
  unfold up
  rw [e]
  split
  · rename_i hz
    have e2 : a * y - p = 0 + (a - p / y) * y := by rw [Int.sub_mul, Int.mul_comm (p / y) y]; omega
    rw [e2, Int.add_mul_ediv_right _ _ (by omega)]; simp
  · rename_i hz
    have e2 : a * y - p = (y - p % y) + (a - p / y - 1) * y := by rw [Int.sub_mul, Int.sub_mul, Int.mul_comm (p / y) y]; omega
    rw [e2, Int.add_mul_ediv_right _ _ (by omega), Int.ediv_eq_zero_of_lt (a := y - p % y) (b := y) (by omega) (by omega)]; omega
def spr (a d : Int) : Int := max (2 * d * a / (100 - d)) (2 * d * a / (100 + d))
theorem spr_bd (a d : Int) (h0 : 0 ≤ d) (h1 : d ≤ 49) (h2 : 0 ≤ a) (h3 : a ≤ 1099511627776) : 0 ≤ 2 * d * a / (100 - d) ∧ 2 * d * a / (100 - d) ≤ 1000000000000000 ∧ 0 ≤ 2 * d * a / (100 + d) ∧ 2 * d * a / (100 + d) ≤ 1000000000000000 := by
  have hb := mul_bd a (2 * d) h2 h3 (by omega) (by omega)
  rw [Int.mul_comm a] at hb
  have x1 := div_bd (2 * d * a) (100 - d) hb.1 (by omega)
  have x2 := div_bd (2 * d * a) (100 + d) hb.1 (by omega)
  omega
theorem spread_in (a d : Int) (h0 : 0 ≤ d) (h1 : d ≤ 49) (h2 : 0 ≤ a) (h3 : a ≤ 1099511627776) : rate_Spread.f a d = some (spr a d, 0) := by
  have hb := spr_bd a d h0 h1 h2 h3
  unfold rate_Spread.f
  rw [most_in a d h0 h1 h2 h3, least_in a d h0 h1 h2 h3]
  simp only [Option.bind_some, if_true]
  rw [most_sub a d h1, least_sub a d h0, w64 (by omega) (by omega), w64 (by omega) (by omega)]
  unfold spr mx
  congr 2; split <;> omega
theorem spread_out (a d : Int) (h : ¬ (0 ≤ d ∧ d ≤ 49 ∧ 0 ≤ a ∧ a ≤ 1099511627776)) : rate_Spread.f a d = some (0, 1) := by
  unfold rate_Spread.f; rw [most_out a d h]; rfl
theorem spr_mono (a b d : Int) (h0 : 0 ≤ d) (h1 : d ≤ 49) (h : a ≤ b) : spr a d ≤ spr b d := by
  have hm : 2 * d * a ≤ 2 * d * b := Int.mul_le_mul_of_nonneg_left h (by omega)
  have x1 := Int.ediv_le_ediv (show (0 : Int) < 100 - d by omega) hm
  have x2 := Int.ediv_le_ediv (show (0 : Int) < 100 + d by omega) hm
  unfold spr; omega
theorem spr_nonneg (a d : Int) (h0 : 0 ≤ d) (h1 : d ≤ 49) (h2 : 0 ≤ a) (h3 : a ≤ 1099511627776) : 0 ≤ spr a d := by
  have := spr_bd a d h0 h1 h2 h3; unfold spr; omega
theorem up_le (p y b : Int) (hy : 0 < y) (h : p ≤ b * y) : up p y ≤ b := by
  have hdm := Int.mul_ediv_add_emod p y
  have hm0 := Int.emod_nonneg p (show y ≠ 0 by omega)
  unfold up
  split
  · exact Int.le_of_mul_le_mul_right (a := y) (by rw [Int.mul_comm (p / y)]; omega) hy
  · have : p / y < b := Int.lt_of_mul_lt_mul_right (a := y) (by rw [Int.mul_comm (p / y)]; omega) (by omega)
    omega
theorem RateMore : carillonlaw07_RateMore.Pure := by
  intro a b c d ha hb hc hd
  have wa := bounds_u32 ha
  have wb := bounds_u32 hb
  have wc := bounds_u8 hc
  have wd := bounds_u8 hd
  obtain ⟨p, hp, hp0, hp1⟩ : ∃ p, wrap64 (mn a b) = p ∧ 0 ≤ p ∧ p ≤ a ∧ p ≤ b := by unfold mn; split <;> exact ⟨_, w64 (by omega) (by omega), by omega⟩
  obtain ⟨q, hq, hq0, hq1⟩ : ∃ q, wrap64 (mx a b) = q ∧ (a ≤ q ∧ b ≤ q) ∧ q ≤ 4294967295 := by unfold mx; split <;> exact ⟨_, w64 (by omega) (by omega), by omega⟩
  obtain ⟨k, hk, hk0, hk1⟩ : ∃ k, wrap64 (Int.tmod (mn c d) 50) = k ∧ 0 ≤ k ∧ k ≤ 49 := by
    have h : 0 ≤ mn c d ∧ mn c d ≤ 255 := by unfold mn; split <;> omega
    rw [Int.tmod_eq_emod_of_nonneg h.1, w64 (by omega) (by omega)]
    exact ⟨_, rfl, by omega, by omega⟩
  unfold carillonlaw07_RateMore.f
  rw [hp, hq, hk, spread_in p k hk0 hk1 hp0 (by omega), spread_in q k hk0 hk1 (by omega) (by omega), w64 (n := a) (by omega) (by omega), spread_in a 0 (by omega) (by omega) wa.1 (by omega)]
  simp only [Option.bind_some, if_true]
  rw [if_pos (spr_mono p q k hk0 hk1 (by omega)), if_pos (spr_nonneg p k hk0 hk1 hp0 (by omega)), if_pos (by simp [spr]), awake_true]; rfl

end Go.Proofs.Ytifliiplejbdfaa.Pure
