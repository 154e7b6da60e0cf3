/- For every list of readings and every drift, carillonlaw07.RateBeats returns true and leaves its arguments as they were; no condition. -/
import Derived.Test.YtifliiplejbdfaaPRateBeatsx1
import Derived.OpenShut
import Derived.Test.YtifliiplejbdfaaWSized
namespace Go.Proofs.Ytifliiplejbdfaa.Pure
open Go.RowKit Go.Proofs.Ytifliiplejbdfaa.PRateBeats Go.Proofs.YtifliiplejbdfaaW.PrintWords Go.Proofs.YtifliiplejbdfaaW.PrintLast Go.Proofs.YtifliiplejbdfaaW.PrintMore

theorem w64 {n : Int} (h0 : -9223372036854775808 ≤ n) (h1 : n ≤ 9223372036854775807) : wrap64 n = n := by unfold wrap64; omega
theorem may_in (a d : Int) (h0 : 0 ≤ d) (h1 : d ≤ 49) (h2 : 0 ≤ a) (h3 : a ≤ 1099511627776) : rate_may.f a d = some true := by
  unfold rate_may.f; rw [if_pos h0, if_pos h1, if_pos h2, decide_eq_true h3]
theorem may_out (a d : Int) (h : ¬ (0 ≤ d ∧ d ≤ 49 ∧ 0 ≤ a ∧ a ≤ 1099511627776)) : rate_may.f a d = some false := by
  unfold rate_may.f
  split
  · split
    · split
      · rw [decide_eq_false (by omega)]
      · rfl
    · rfl
  · rfl
theorem ends_in (d : Int) (h0 : 0 ≤ d) (h1 : d ≤ 49) : rate_ends.f d = some (100 - d, 100 + d) := by
  unfold rate_ends.f; rw [w64 (by omega) (by omega), w64 (by omega) (by omega)]
def up (a b : Int) : Int := if a % b = 0 then a / b else a / b + 1
theorem div_bd (a b : Int) (h0 : 0 ≤ a) (hb : 0 < b) : 0 ≤ a / b ∧ a / b ≤ a := ⟨Int.ediv_nonneg h0 (by omega), Int.ediv_le_self _ h0⟩
theorem quot_down (a b : Int) (h0 : 0 ≤ a) (h1 : a ≤ 1000000000000000000) (hb : 0 < b) : rate_quotient_int64.f a b 0 = some (a / b) := by
  have h := div_bd a b h0 hb
  unfold rate_quotient_int64.f
  rw [if_neg (by omega), if_neg (by omega), Int.tdiv_eq_ediv_of_nonneg h0, w64 (by omega) (by omega)]
theorem quot_up (a b : Int) (h0 : 0 ≤ a) (h1 : a ≤ 1000000000000000000) (hb : 0 < b) : rate_quotient_int64.f a b 1 = some (up a b) := by
  have h := div_bd a b h0 hb
  unfold rate_quotient_int64.f up
  rw [if_neg (by omega), if_pos rfl, Int.tdiv_eq_ediv_of_nonneg h0, Int.tmod_eq_emod_of_nonneg h0, w64 (n := a / b) (by omega) (by omega), w64 (by omega) (by omega)]
  split <;> rfl
theorem mul_bd (a x : Int) (h2 : 0 ≤ a) (h3 : a ≤ 1099511627776) (hx0 : 0 ≤ x) (hx : x ≤ 149) : 0 ≤ a * x ∧ a * x ≤ 1000000000000000 := by
  have h1 := Int.mul_nonneg h2 hx0
  have h4 := Int.mul_le_mul h3 hx hx0 (by omega)
  omega
theorem most_in (a d : Int) (h0 : 0 ≤ d) (h1 : d ≤ 49) (h2 : 0 ≤ a) (h3 : a ≤ 1099511627776) : rate_Most.f a d = some (a * (100 + d) / (100 - d), 0) := by
  have hb := mul_bd a (100 + d) h2 h3 (by omega) (by omega)
  unfold rate_Most.f
  rw [may_in a d h0 h1 h2 h3, ends_in d h0 h1]
  simp only [Option.bind_some, if_true]
  rw [w64 (by omega) (by omega), quot_down _ _ hb.1 (by omega) (by omega)]
  rfl
theorem most_out (a d : Int) (h : ¬ (0 ≤ d ∧ d ≤ 49 ∧ 0 ≤ a ∧ a ≤ 1099511627776)) : rate_Most.f a d = some (0, 1) := by
  unfold rate_Most.f; rw [may_out a d h]; rfl
theorem awake_true : carillonlaw07_awake.f = some true := by
  unfold carillonlaw07_awake.f; rw [most_in 200 3 (by omega) (by omega) (by omega) (by omega)]; rfl
theorem up_le (p y b : Int) (hy : 0 < y) (h : p ≤ b * y) : up p y ≤ b := by
  have hdm := Int.mul_ediv_add_emod p y
  have hm0 := Int.emod_nonneg p (show y ≠ 0 by omega)
  unfold up
  split
  · exact Int.le_of_mul_le_mul_right (a := y) (by rw [Int.mul_comm (p / y)]; omega) hy
  · have : p / y < b := Int.lt_of_mul_lt_mul_right (a := y) (by rw [Int.mul_comm (p / y)]; omega) (by omega)
    omega
theorem beats_in (a d : Int) (h0 : 0 ≤ d) (h1 : d ≤ 49) (h2 : 0 ≤ a) (h3 : a ≤ 1099511627776) : rate_Beats.f a d = some (up a (100 + d), a / (100 - d), 0) := by
  unfold rate_Beats.f
  rw [may_in a d h0 h1 h2 h3, ends_in d h0 h1]
  simp only [Option.bind_some, if_true]
  rw [quot_up _ _ h2 (by omega) (by omega), quot_down _ _ h2 (by omega) (by omega)]
  rfl
theorem step_in (x d : Int) (hx0 : -128 ≤ x) (hx1 : x ≤ 127) (h0 : 0 ≤ d) (h1 : d ≤ 49) : ∃ s, wrap64 (100 + (mn (mx (wrap64 x) (wrap64 (-d))) d)) = s ∧ 100 - d ≤ s ∧ s ≤ 100 + d := by
  rw [w64 (n := x) (by omega) (by omega), w64 (n := -d) (by omega) (by omega)]
  refine ⟨_, rfl, ?_⟩
  have hm : -d ≤ mn (mx x (-d)) d ∧ mn (mx x (-d)) d ≤ d := by unfold mn mx; split <;> split <;> omega
  rw [w64 (by omega) (by omega)]; omega
theorem rd_in (l : List Int) (i : Int) (h : ∀ x ∈ l, (Lit.int .i8 x).wf = true) (h0 : 0 ≤ i) (h1 : i < l.length) : -128 ≤ rd l i ∧ rd l i ≤ 127 := by
  unfold rd
  have hi : i.toNat < l.length := by omega
  rw [List.getD_eq_getElem?_getD, List.getElem?_eq_getElem hi]
  exact bounds_i8 (h _ (List.getElem_mem hi))
theorem k_in (a : Int) (h : (Lit.int .u8 a).wf = true) : ∃ d, wrap64 (Int.tmod a 50) = d ∧ 0 ≤ d ∧ d ≤ 49 := by
  have := bounds_u8 h
  rw [Int.tmod_eq_emod_of_nonneg this.1, w64 (by omega) (by omega)]
  exact ⟨_, rfl, by omega, by omega⟩
theorem in_bd (a n d : Int) (h0 : 0 ≤ d) (h1 : d ≤ 49) (hn : 0 ≤ n) (hn1 : n ≤ 1000) (ha : n * (100 - d) ≤ a) (hb : a ≤ n * (100 + d)) : 0 ≤ a ∧ a ≤ 149000 := by
  have x1 := Int.mul_nonneg hn (show (0 : Int) ≤ 100 - d by omega)
  have x2 := Int.mul_le_mul hn1 (show 100 + d ≤ 149 by omega) (by omega) (by omega)
  omega
theorem ends_up (d : Int) (h0 : 0 ≤ d) (h1 : d ≤ 49) (a n : Int) (hn : 0 ≤ n) (hn1 : n ≤ 1000) (ha : n * (100 - d) ≤ a) (hb : a ≤ n * (100 + d)) :
    ((rate_Beats.f a d).bind fun bt113 => (if bt113.2.2 = 0 then (if bt113.1 ≤ n then (if n ≤ bt113.2.1 then ((carillonlaw07_awake.f).bind fun t116 => (some t116)) else (some false)) else (some false)) else (some false))) = some true := by
  have hab := in_bd a n d h0 h1 hn hn1 ha hb
  rw [beats_in a d h0 h1 hab.1 (by omega)]
  simp only [Option.bind_some, if_true]
  rw [if_pos (up_le a (100 + d) n (by omega) hb), if_pos (Int.le_ediv_of_mul_le (by omega) ha), awake_true]; rfl
theorem loop (l : List Int) (h : ∀ x ∈ l, (Lit.int .i8 x).wf = true) (d : Int) (h0 : 0 ≤ d) (h1 : d ≤ 49) (m : Nat) : ∀ (k : Nat) (a n : Int), m < k → (l.length : Int) - n ≤ m → 0 ≤ n → n ≤ 1000 → n * (100 - d) ≤ a → a ≤ n * (100 + d) →
    carillonlaw07_RateBeats.l0 k l d a n = some true := by
  induction m with
  | zero =>
    intro k a n hk hm hn hn1 ha hb
    obtain ⟨k, rfl⟩ : ∃ m, k = m + 1 := ⟨k - 1, by omega⟩
    simp only [carillonlaw07_RateBeats.l0]
    rw [if_neg (by omega)]
    exact ends_up d h0 h1 a n hn hn1 ha hb
  | succ m ih =>
    intro k a n hk hm hn hn1 ha hb
    obtain ⟨k, rfl⟩ : ∃ m, k = m + 1 := ⟨k - 1, by omega⟩
    simp only [carillonlaw07_RateBeats.l0]
    by_cases hl : n < (l.length : Int)
    · by_cases ht : n < 1000
      · have hab := in_bd a n d h0 h1 hn hn1 ha hb
        obtain ⟨s, hs, hs0, hs1⟩ := step_in (rd l n) d (rd_in l n h hn hl).1 (rd_in l n h hn hl).2 h0 h1
        rw [if_pos hl, if_pos ht, if_pos hn, hs, w64 (n := a + s) (by omega) (by omega), w64 (n := n + 1) (by omega) (by omega)]
        have e1 : (n + 1) * (100 - d) = n * (100 - d) + (100 - d) := by rw [Int.add_mul, Int.one_mul]
        have e2 : (n + 1) * (100 + d) = n * (100 + d) + (100 + d) := by rw [Int.add_mul, Int.one_mul]
        exact ih k _ _ (by omega) (by omega) (by omega) (by omega) (by omega) (by omega)
      · rw [if_pos hl, if_neg ht]
        exact ends_up d h0 h1 a n hn hn1 ha hb
    · rw [if_neg hl]
      exact ends_up d h0 h1 a n hn hn1 ha hb
theorem RateBeats : carillonlaw07_RateBeats.Pure := by
  intro l a hl hs h ha
  obtain ⟨d, hd, h0, h1⟩ := k_in a ha
  refine ⟨l.length + 1, ?_⟩
  unfold carillonlaw07_RateBeats.f
  rw [hd]
  exact loop l h d h0 h1 l.length _ 0 0 (by omega) (by omega) (by omega) (by omega) (by omega) (by omega)

end Go.Proofs.Ytifliiplejbdfaa.Pure

namespace Go.Proofs.Ytifliiplejbdfaa
abbrev PrintWords.sized_ints := @Go.Proofs.YtifliiplejbdfaaW.PrintWords.sized_ints
end Go.Proofs.Ytifliiplejbdfaa
