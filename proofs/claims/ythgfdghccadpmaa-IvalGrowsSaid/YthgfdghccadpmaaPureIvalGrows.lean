/- What carillonlaw08.IvalGrows tells in numbers is true, whatever the interval, the number and the readings. -/
import Derived.Test.YthgfdghccadpmaaPIvalGrowsx2
import Derived.OpenShut
namespace Go.Proofs.Ythgfdghccadpmaa.PureGrows
open Go.RowKit Go.Proofs.Ythgfdghccadpmaa.PIvalGrows Go.Proofs.YthgfdghccadpmaaW.PrintWords Go.Proofs.YthgfdghccadpmaaW.PrintLast Go.Proofs.YthgfdghccadpmaaW.PrintMore
def R (a b : Int) : Prop := a ≤ b ∧ -1099511627776 ≤ a ∧ b ≤ 1099511627776
instance (a b : Int) : Decidable (R a b) := by unfold R; infer_instance
theorem right_eq (a b : Int) : ival_Right.f a b = some (decide (R a b)) := by
  unfold ival_Right.f R
  by_cases h1 : a ≤ b
  · by_cases h2 : a ≥ -1099511627776
    · rw [if_pos h1, if_pos h2]; simp [h1, h2]
    · rw [if_pos h1, if_neg h2]; simp [h2]
  · rw [if_neg h1]; simp [h1]
theorem holds_eq (a b n : Int) : ival_Holds.f a b n = some (decide (R a b ∧ a ≤ n ∧ n ≤ b)) := by
  unfold ival_Holds.f
  rw [right_eq]
  by_cases h : R a b
  · by_cases h2 : a ≤ n
    · simp [h, h2]
    · simp [h2]
  · simp [h]
theorem awake_true : carillonlaw08_awake.f = some true := by
  unfold carillonlaw08_awake.f; rw [holds_eq, decide_eq_true (by unfold R; omega)]; rfl
theorem made_eq (a b e : Int) : ival_made.f a b e = if R a b then some (a, b, 0) else some (0, 0, e) := by
  unfold ival_made.f; rw [right_eq]; by_cases h : R a b <;> simp [h]
theorem make_eq (a b : Int) : ival_Make.f a b = if R a b then some (a, b, 0) else some (0, 0, 1) := by
  unfold ival_Make.f; rw [made_eq]; by_cases h : R a b <;> simp [h]
theorem w64 {n : Int} (h0 : -9223372036854775808 ≤ n) (h1 : n ≤ 9223372036854775807) : wrap64 n = n := by unfold wrap64; omega
theorem may_in (a d : Int) (h0 : 0 ≤ d) (h1 : d ≤ 49) (h2 : 0 ≤ a) (h3 : a ≤ 1099511627776) : rate_may.f a d = some true := by
  unfold rate_may.f; rw [if_pos h0, if_pos h1, if_pos h2, decide_eq_true h3]
theorem may_out (a d : Int) (h : ¬ (0 ≤ d ∧ d ≤ 49 ∧ 0 ≤ a ∧ a ≤ 1099511627776)) : rate_may.f a d = some false := by
  unfold rate_may.f
  split
  · split
    · split
      · rw [decide_eq_false (by omega)]
      · rfl
    · rfl
  · rfl
theorem ends_in (d : Int) (h0 : 0 ≤ d) (h1 : d ≤ 49) : rate_ends.f d = some (100 - d, 100 + d) := by
  unfold rate_ends.f; rw [w64 (by omega) (by omega), w64 (by omega) (by omega)]
def up (a b : Int) : Int := if a % b = 0 then a / b else a / b + 1
theorem div_bd (a b : Int) (h0 : 0 ≤ a) (hb : 0 < b) : 0 ≤ a / b ∧ a / b ≤ a := ⟨Int.ediv_nonneg h0 (by omega), Int.ediv_le_self _ h0⟩
theorem quot_down (a b : Int) (h0 : 0 ≤ a) (h1 : a ≤ 1000000000000000000) (hb : 0 < b) : rate_quotient_int64.f a b 0 = some (a / b) := by
  have h := div_bd a b h0 hb
  unfold rate_quotient_int64.f
  rw [if_neg (by omega), if_neg (by omega), Int.tdiv_eq_ediv_of_nonneg h0, w64 (by omega) (by omega)]
theorem quot_up (a b : Int) (h0 : 0 ≤ a) (h1 : a ≤ 1000000000000000000) (hb : 0 < b) : rate_quotient_int64.f a b 1 = some (up a b) := by
  have h := div_bd a b h0 hb
  unfold rate_quotient_int64.f up
  rw [if_neg (by omega), if_pos rfl, Int.tdiv_eq_ediv_of_nonneg h0, Int.tmod_eq_emod_of_nonneg h0, w64 (n := a / b) (by omega) (by omega), w64 (by omega) (by omega)]
  split <;> rfl
theorem mul_bd (a x : Int) (h2 : 0 ≤ a) (h3 : a ≤ 1099511627776) (hx0 : 0 ≤ x) (hx : x ≤ 149) : 0 ≤ a * x ∧ a * x ≤ 1000000000000000 := by
  have h1 := Int.mul_nonneg h2 hx0
  have h4 := Int.mul_le_mul h3 hx hx0 (by omega)
  omega
theorem most_in (a d : Int) (h0 : 0 ≤ d) (h1 : d ≤ 49) (h2 : 0 ≤ a) (h3 : a ≤ 1099511627776) : rate_Most.f a d = some (a * (100 + d) / (100 - d), 0) := by
  have hb := mul_bd a (100 + d) h2 h3 (by omega) (by omega)
  unfold rate_Most.f
  rw [may_in a d h0 h1 h2 h3, ends_in d h0 h1]
  simp only [Option.bind_some, if_true]
  rw [w64 (by omega) (by omega), quot_down _ _ hb.1 (by omega) (by omega)]
  rfl
theorem most_out (a d : Int) (h : ¬ (0 ≤ d ∧ d ≤ 49 ∧ 0 ≤ a ∧ a ≤ 1099511627776)) : rate_Most.f a d = some (0, 1) := by
  unfold rate_Most.f; rw [may_out a d h]; rfl
theorem least_in (a d : Int) (h0 : 0 ≤ d) (h1 : d ≤ 49) (h2 : 0 ≤ a) (h3 : a ≤ 1099511627776) : rate_Least.f a d = some (up (a * (100 - d)) (100 + d), 0) := by
  have hb := mul_bd a (100 - d) h2 h3 (by omega) (by omega)
  unfold rate_Least.f
  rw [may_in a d h0 h1 h2 h3, ends_in d h0 h1]
  simp only [Option.bind_some, if_true]
  rw [w64 (by omega) (by omega), quot_up _ _ hb.1 (by omega) (by omega)]
  rfl
theorem least_out (a d : Int) (h : ¬ (0 ≤ d ∧ d ≤ 49 ∧ 0 ≤ a ∧ a ≤ 1099511627776)) : rate_Least.f a d = some (0, 1) := by
  unfold rate_Least.f; rw [may_out a d h]; rfl
theorem most_sub (a d : Int) (h1 : d ≤ 49) : a * (100 + d) / (100 - d) - a = 2 * d * a / (100 - d) := by
  have e : a * (100 + d) = 2 * d * a + a * (100 - d) := by
    rw [Int.mul_add, Int.mul_sub, Int.mul_assoc 2 d a, Int.mul_comm d a]; omega
  rw [e, Int.add_mul_ediv_right _ _ (by omega)]; omega
theorem least_sub (a d : Int) (h0 : 0 ≤ d) : a - up (a * (100 - d)) (100 + d) = 2 * d * a / (100 + d) := by
  have e : 2 * d * a = a * (100 + d) - a * (100 - d) := by
    rw [Int.mul_add, Int.mul_sub, Int.mul_assoc 2 d a, Int.mul_comm d a]; omega
  have hy : (0 : Int) < 100 + d := by omega
  generalize hp : a * (100 - d) = p at *
  generalize hyy : 100 + d = y at *
  have hdm := Int.mul_ediv_add_emod p y
  have hm0 := Int.emod_nonneg p (show y ≠ 0 by omega)
  have hm1 := Int.emod_lt_of_pos p hy
  unfold up
  rw [e]
  split
  · rename_i hz
    have e2 : a * y - p = 0 + (a - p / y) * y := by rw [Int.sub_mul, Int.mul_comm (p / y) y]; omega
    rw [e2, Int.add_mul_ediv_right _ _ (by omega)]; simp
  · rename_i hz
    have e2 : a * y - p = (y - p % y) + (a - p / y - 1) * y := by rw [Int.sub_mul, Int.sub_mul, Int.mul_comm (p / y) y]; omega
    rw [e2, Int.add_mul_ediv_right _ _ (by omega), Int.ediv_eq_zero_of_lt (a := y - p % y) (b := y) (by omega) (by omega)]; omega
def spr (a d : Int) : Int := max (2 * d * a / (100 - d)) (2 * d * a / (100 + d))
theorem spr_bd (a d : Int) (h0 : 0 ≤ d) (h1 : d ≤ 49) (h2 : 0 ≤ a) (h3 : a ≤ 1099511627776) : 0 ≤ 2 * d * a / (100 - d) ∧ 2 * d * a / (100 - d) ≤ 1000000000000000 ∧ 0 ≤ 2 * d * a / (100 + d) ∧ 2 * d * a / (100 + d) ≤ 1000000000000000 := by
  have hb := mul_bd a (2 * d) h2 h3 (by omega) (by omega)
  rw [Int.mul_comm a] at hb
  have x1 := div_bd (2 * d * a) (100 - d) hb.1 (by omega)
  have x2 := div_bd (2 * d * a) (100 + d) hb.1 (by omega)
  omega
theorem spread_in (a d : Int) (h0 : 0 ≤ d) (h1 : d ≤ 49) (h2 : 0 ≤ a) (h3 : a ≤ 1099511627776) : rate_Spread.f a d = some (spr a d, 0) := by
  have hb := spr_bd a d h0 h1 h2 h3
  unfold rate_Spread.f
  rw [most_in a d h0 h1 h2 h3, least_in a d h0 h1 h2 h3]
  simp only [Option.bind_some, if_true]
  rw [most_sub a d h1, least_sub a d h0, w64 (by omega) (by omega), w64 (by omega) (by omega)]
  unfold spr mx
  congr 2; split <;> omega
theorem spread_out (a d : Int) (h : ¬ (0 ≤ d ∧ d ≤ 49 ∧ 0 ≤ a ∧ a ≤ 1099511627776)) : rate_Spread.f a d = some (0, 1) := by
  unfold rate_Spread.f; rw [most_out a d h]; rfl
theorem spr_mono (a b d : Int) (h0 : 0 ≤ d) (h1 : d ≤ 49) (h : a ≤ b) : spr a d ≤ spr b d := by
  have hm : 2 * d * a ≤ 2 * d * b := Int.mul_le_mul_of_nonneg_left h (by omega)
  have x1 := Int.ediv_le_ediv (show (0 : Int) < 100 - d by omega) hm
  have x2 := Int.ediv_le_ediv (show (0 : Int) < 100 + d by omega) hm
  unfold spr; omega
theorem spr_nonneg (a d : Int) (h0 : 0 ≤ d) (h1 : d ≤ 49) (h2 : 0 ≤ a) (h3 : a ≤ 1099511627776) : 0 ≤ spr a d := by
  have := spr_bd a d h0 h1 h2 h3; unfold spr; omega
theorem up_le (p y b : Int) (hy : 0 < y) (h : p ≤ b * y) : up p y ≤ b := by
  have hdm := Int.mul_ediv_add_emod p y
  have hm0 := Int.emod_nonneg p (show y ≠ 0 by omega)
  unfold up
  split
  · exact Int.le_of_mul_le_mul_right (a := y) (by rw [Int.mul_comm (p / y)]; omega) hy
  · have : p / y < b := Int.lt_of_mul_lt_mul_right (a := y) (by rw [Int.mul_comm (p / y)]; omega) (by omega)
    omega
theorem step_in (x d : Int) (hx0 : -128 ≤ x) (hx1 : x ≤ 127) (h0 : 0 ≤ d) (h1 : d ≤ 49) : ∃ s, wrap64 (100 + (mn (mx (wrap64 x) (wrap64 (-d))) d)) = s ∧ 100 - d ≤ s ∧ s ≤ 100 + d := by
  rw [w64 (n := x) (by omega) (by omega), w64 (n := -d) (by omega) (by omega)]
  refine ⟨_, rfl, ?_⟩
  have hm : -d ≤ mn (mx x (-d)) d ∧ mn (mx x (-d)) d ≤ d := by unfold mn mx; split <;> split <;> omega
  rw [w64 (by omega) (by omega)]; omega
theorem rd_in (l : List Int) (i : Int) (h : ∀ x ∈ l, (Lit.int .i8 x).wf = true) (h0 : 0 ≤ i) (h1 : i < l.length) : -128 ≤ rd l i ∧ rd l i ≤ 127 := by
  unfold rd
  have hi : i.toNat < l.length := by omega
  rw [List.getD_eq_getElem?_getD, List.getElem?_eq_getElem hi]
  exact bounds_i8 (h _ (List.getElem_mem hi))
theorem k_in (a : Int) (h : (Lit.int .u8 a).wf = true) : ∃ d, wrap64 (Int.tmod a 50) = d ∧ 0 ≤ d ∧ d ≤ 49 := by
  have := bounds_u8 h
  rw [Int.tmod_eq_emod_of_nonneg this.1, w64 (by omega) (by omega)]
  exact ⟨_, rfl, by omega, by omega⟩
theorem in_bd (a n d : Int) (h0 : 0 ≤ d) (h1 : d ≤ 49) (hn : 0 ≤ n) (hn1 : n ≤ 1000) (ha : n * (100 - d) ≤ a) (hb : a ≤ n * (100 + d)) : 0 ≤ a ∧ a ≤ 149000 := by
  have x1 := Int.mul_nonneg hn (show (0 : Int) ≤ 100 - d by omega)
  have x2 := Int.mul_le_mul hn1 (show 100 + d ≤ 149 by omega) (by omega) (by omega)
  omega
theorem grow_eq (a b t d : Int) (h : R a b) (h0 : 0 ≤ d) (h1 : d ≤ 49) (h2 : 0 ≤ t) (h3 : t ≤ 1099511627776) : ival_Grow.f a b t d = if R (a - spr t d) (b + spr t d) then some (a - spr t d, b + spr t d, 0) else some (0, 0, 1) := by
  have hb := spr_bd t d h0 h1 h2 h3
  have hs := spr_nonneg t d h0 h1 h2 h3
  have hs2 : spr t d ≤ 1000000000000000 := by unfold spr; omega
  unfold ival_Grow.f
  rw [spread_in t d h0 h1 h2 h3, right_eq]
  have := h
  unfold R at this
  simp only [Option.bind_some, if_true, decide_eq_true h]
  rw [w64 (by omega) (by omega), w64 (by omega) (by omega), make_eq]
  by_cases hr : R (a - spr t d) (b + spr t d) <;> simp [hr]
theorem grow_out (a b t d : Int) (h : ¬ R a b) (h0 : 0 ≤ d) (h1 : d ≤ 49) (h2 : 0 ≤ t) (h3 : t ≤ 1099511627776) : ival_Grow.f a b t d = some (0, 0, 1) := by
  unfold ival_Grow.f
  rw [spread_in t d h0 h1 h2 h3, right_eq]
  simp [h]
theorem ends_up (lo hi at_ : Int) (d : Int) (h0 : 0 ≤ d) (h1 : d ≤ 49) (k : Nat) (a b n : Int) (hn : 0 ≤ n) (hn1 : n ≤ 1000) (ha : n * (100 - d) ≤ a) (hb : a ≤ n * (100 + d)) (hc : n * (100 - d) ≤ b) (he : b ≤ n * (100 + d)) :
    carillonlaw08_IvalGrows.j1 (k + 2) at_ d a b lo hi = some true := by
  have hab := in_bd a n d h0 h1 hn hn1 ha hb
  have hcd := in_bd b n d h0 h1 hn hn1 hc he
  have x1 : b * (100 - d) ≤ a * (100 + d) := by
    have y1 := Int.mul_le_mul_of_nonneg_right he (show (0 : Int) ≤ 100 - d by omega)
    have y2 := Int.mul_le_mul_of_nonneg_right ha (show (0 : Int) ≤ 100 + d by omega)
    rw [Int.mul_right_comm] at y2; omega
  have x2 : a * (100 - d) ≤ b * (100 + d) := by
    have y1 := Int.mul_le_mul_of_nonneg_right hb (show (0 : Int) ≤ 100 - d by omega)
    have y2 := Int.mul_le_mul_of_nonneg_right hc (show (0 : Int) ≤ 100 + d by omega)
    rw [Int.mul_right_comm] at y2; omega
  have z1 : b ≤ a * (100 + d) / (100 - d) := Int.le_ediv_of_mul_le (by omega) x1
  have z2 : up (a * (100 - d)) (100 + d) ≤ b := up_le _ _ _ (by omega) x2
  have s1 := most_sub a d h1
  have s2 := least_sub a d h0
  have s4 : spr a d = max (2 * d * a / (100 - d)) (2 * d * a / (100 + d)) := rfl
  have q1 : b - a ≤ spr a d := by omega
  have q2 : a - b ≤ spr a d := by omega
  clear s1 s2 s4 z1 z2 x1 x2
  have hsp := spread_in a d h0 h1 hab.1 (by omega)
  by_cases h : R lo hi
  · have hg := grow_eq lo hi a d h h0 h1 hab.1 (by omega)
    by_cases hr : R (lo - spr a d) (hi + spr a d)
    · rw [if_pos hr] at hg
      by_cases hh : lo ≤ at_ ∧ at_ ≤ hi
      · have e1 : ival_Holds.f lo hi at_ = some true := by rw [holds_eq, decide_eq_true ⟨h, hh.1, hh.2⟩]
        unfold R at h
        have ew : wrap64 (wrap64 (at_ + b) - a) = at_ + b - a := by rw [w64 (n := at_ + b) (by omega) (by omega), w64 (by omega) (by omega)]
        have e2 : ival_Holds.f (lo - spr a d) (hi + spr a d) (at_ + b - a) = some true := by rw [holds_eq, decide_eq_true ⟨hr, by omega, by omega⟩]
        simp [carillonlaw08_IvalGrows.j1, carillonlaw08_IvalGrows.j2, hg, hsp, e1, ew, e2, awake_true]
      · have e1 : ival_Holds.f lo hi at_ = some false := by rw [holds_eq, decide_eq_false (fun x => hh x.2)]
        simp [carillonlaw08_IvalGrows.j1, carillonlaw08_IvalGrows.j2, hg, hsp, e1, awake_true]
    · rw [if_neg hr] at hg
      simp [carillonlaw08_IvalGrows.j1, carillonlaw08_IvalGrows.j2, hg, hsp, awake_true]
  · have hg := grow_out lo hi a d h h0 h1 hab.1 (by omega)
    simp [carillonlaw08_IvalGrows.j1, carillonlaw08_IvalGrows.j2, hg, hsp, awake_true]
theorem loop (lo hi at_ : Int) (l m : List Int) (hl : ∀ x ∈ l, (Lit.int .i8 x).wf = true) (hm : ∀ x ∈ m, (Lit.int .i8 x).wf = true) (d : Int) (h0 : 0 ≤ d) (h1 : d ≤ 49) (g : Nat) : ∀ (k : Nat) (a b n : Int), g + 2 < k → (l.length : Int) - n ≤ g → 0 ≤ n → n ≤ 1000 → n * (100 - d) ≤ a → a ≤ n * (100 + d) → n * (100 - d) ≤ b → b ≤ n * (100 + d) →
    carillonlaw08_IvalGrows.l0 k at_ l m d a b n lo hi = some true := by
  induction g with
  | zero =>
    intro k a b n hk hg hn hn1 ha hb hc he
    obtain ⟨k, rfl⟩ : ∃ m, k = m + 2 + 1 := ⟨k - 3, by omega⟩
    rw [carillonlaw08_IvalGrows.l0]
    rw [if_neg (by omega)]
    exact ends_up lo hi at_ d h0 h1 _ a b n hn hn1 ha hb hc he
  | succ g ih =>
    intro k a b n hk hg hn hn1 ha hb hc he
    obtain ⟨k, rfl⟩ : ∃ m, k = m + 2 + 1 := ⟨k - 3, by omega⟩
    rw [carillonlaw08_IvalGrows.l0]
    by_cases hll : n < (l.length : Int)
    · by_cases hml : n < (m.length : Int)
      · by_cases ht : n < 1000
        · have hab := in_bd a n d h0 h1 hn hn1 ha hb
          have hcd := in_bd b n d h0 h1 hn hn1 hc he
          obtain ⟨s, hs, hs0, hs1⟩ := step_in (rd l n) d (rd_in l n hl hn hll).1 (rd_in l n hl hn hll).2 h0 h1
          obtain ⟨t, hq, hq0, hq1⟩ := step_in (rd m n) d (rd_in m n hm hn hml).1 (rd_in m n hm hn hml).2 h0 h1
          rw [if_pos hll, if_pos hml, if_pos ht, if_pos hn, hs, hq, w64 (n := a + s) (by omega) (by omega), w64 (n := b + t) (by omega) (by omega), w64 (n := n + 1) (by omega) (by omega)]
          have e1 : (n + 1) * (100 - d) = n * (100 - d) + (100 - d) := by rw [Int.add_mul, Int.one_mul]
          have e2 : (n + 1) * (100 + d) = n * (100 + d) + (100 + d) := by rw [Int.add_mul, Int.one_mul]
          exact ih (k + 2) _ _ _ (by omega) (by omega) (by omega) (by omega) (by omega) (by omega) (by omega) (by omega)
        · rw [if_pos hll, if_pos hml, if_neg ht]
          exact ends_up lo hi at_ d h0 h1 _ a b n hn hn1 ha hb hc he
      · rw [if_pos hll, if_neg hml]
        exact ends_up lo hi at_ d h0 h1 _ a b n hn hn1 ha hb hc he
    · rw [if_neg hll]
      exact ends_up lo hi at_ d h0 h1 _ a b n hn hn1 ha hb hc he
theorem IvalGrows (lo hi at_ : Int) (l m : List Int) (a : Int) (hl : ∀ x ∈ l, (Lit.int .i8 x).wf = true) (hm : ∀ x ∈ m, (Lit.int .i8 x).wf = true) (ha : (Lit.int .u8 a).wf = true) : ∃ k, carillonlaw08_IvalGrows.f k lo hi at_ l m a = some true := by
  obtain ⟨d, hd, h0, h1⟩ := k_in a ha
  refine ⟨l.length + 3, ?_⟩
  unfold carillonlaw08_IvalGrows.f
  rw [hd]
  exact loop lo hi at_ l m hl hm d h0 h1 l.length _ 0 0 0 (by omega) (by omega) (by omega) (by omega) (by omega) (by omega) (by omega) (by omega)

end Go.Proofs.Ythgfdghccadpmaa.PureGrows
