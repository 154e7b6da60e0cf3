/- Plain facts of a config: when it may be, its round, its quiet, its patience. -/
import Derived.Test.YtfaikkhnlioajaaZS
import Derived.Test.YtfaikkhnlioajaaZT
import Derived.Test.YtfaikkhnlioajaaBRef16From
import Derived.Test.YtfaikkhnlioajaaBRef16Check
namespace Go.Proofs.Ytfaikkhnlioajaa.Sch
set_option linter.unusedVariables false
open Go.RowKit Go.Proofs.YtfaikkhnlioajaaW.PrintWords Go.Proofs.Ytfaikkhnlioajaa.QBase
theorem within_in (a b c : Int) (h : b ≤ a) (h' : a ≤ c) : sched_within.f a b c = some true := by unfold sched_within.f; rw [if_pos h, decide_eq_true h']
theorem within_out (a b c : Int) (h : ¬ (b ≤ a ∧ a ≤ c)) : sched_within.f a b c = some false := by
  unfold sched_within.f
  by_cases h1 : a ≥ b
  · rw [if_pos h1, decide_eq_false (by omega)]
  · rw [if_neg h1]
theorem check_in (k : Nat) (n f s dl ks e wd rh sl cp : Int) (h : Ok n f s dl ks e wd rh sl cp) : sched_Check.f (k + 3) n f s dl ks e wd rh sl cp = some 0 := by
  unfold Ok at h
  unfold sched_Check.f
  have hz : (n == 0 && (f == 0 && (s == 0 && (dl == 0 && (ks == 0 && (e == 0 && (wd == 0 && (rh == 0 && (sl == 0 && (cp == 0)))))))))) = false := by
    have : (n == 0) = false := beq_eq_false_iff_ne.2 (by omega)
    rw [this]; rfl
  rw [hz, if_neg (by simp), within_in _ _ _ (by omega) (by omega), Option.bind_some, if_pos rfl, within_in _ _ _ (by omega) (by omega), Option.bind_some, if_pos rfl, w64 (n := 3 * f) (by omega) (by omega), decide_eq_false (by omega), sched_Check.j0, if_neg (by simp)]
  rw [within_in _ _ _ (by omega) (by omega), Option.bind_some, if_pos rfl, within_in _ _ _ (by omega) (by omega), Option.bind_some, if_pos rfl, w64 (n := dl + 4) (by omega) (by omega), within_in _ _ _ (by omega) (by omega), Option.bind_some, Bool.not_true, sched_Check.j1, if_neg (by simp)]
  rw [w64 (n := 4 * s) (by omega) (by omega), within_in _ _ _ (by omega) (by omega), Option.bind_some, if_pos rfl, within_in _ _ _ (by omega) (by omega), Option.bind_some, Bool.not_true, sched_Check.j2, if_neg (by simp)]
  rw [within_in _ _ _ (by omega) (by omega), Option.bind_some, if_pos rfl, within_in _ _ _ (by omega) (by omega), Option.bind_some, if_pos rfl, within_in _ _ _ (by omega) (by omega), Option.bind_some, if_pos rfl]
theorem check_out (k : Nat) (n f s dl ks e wd rh sl cp : Int) (h : ¬ Ok n f s dl ks e wd rh sl cp) : sched_Check.f (k + 3) n f s dl ks e wd rh sl cp = some 1 := by
  unfold Ok at h
  unfold sched_Check.f
  split
  · rfl
  · by_cases h1 : 1 ≤ n ∧ n ≤ 8
    · rw [within_in _ _ _ h1.1 h1.2, Option.bind_some, if_pos rfl]
      by_cases h2 : 0 ≤ f ∧ f ≤ 8
      · rw [within_in _ _ _ h2.1 h2.2, Option.bind_some, if_pos rfl, w64 (n := 3 * f) (by omega) (by omega)]
        by_cases h3 : 3 * f ≥ n
        · rw [decide_eq_true h3]; rfl
        · rw [decide_eq_false h3, sched_Check.j0, if_neg (by simp)]
          by_cases h4 : 300 ≤ s ∧ s ≤ 10000
          · rw [within_in _ _ _ h4.1 h4.2, Option.bind_some, if_pos rfl]
            by_cases h5 : 1 ≤ dl ∧ dl ≤ 4
            · rw [within_in _ _ _ h5.1 h5.2, Option.bind_some, if_pos rfl, w64 (n := dl + 4) (by omega) (by omega)]
              by_cases h6 : dl + 4 ≤ ks ∧ ks ≤ 256
              · rw [within_in _ _ _ h6.1 h6.2, Option.bind_some, Bool.not_true, sched_Check.j1, if_neg (by simp), w64 (n := 4 * s) (by omega) (by omega)]
                by_cases h7 : 1 ≤ e ∧ e ≤ 4 * s
                · rw [within_in _ _ _ h7.1 h7.2, Option.bind_some, if_pos rfl]
                  by_cases h8 : 100 ≤ wd ∧ wd ≤ 4 * s
                  · rw [within_in _ _ _ h8.1 h8.2, Option.bind_some, Bool.not_true, sched_Check.j2, if_neg (by simp)]
                    by_cases h9 : 0 ≤ rh ∧ rh ≤ 5
                    · rw [within_in _ _ _ h9.1 h9.2, Option.bind_some, if_pos rfl]
                      by_cases h10 : 0 ≤ sl ∧ sl ≤ 5
                      · rw [within_in _ _ _ h10.1 h10.2, Option.bind_some, if_pos rfl, within_out _ _ _ (by omega), Option.bind_some, if_neg (by simp)]
                      · rw [within_out _ _ _ h10, Option.bind_some, if_neg (by simp)]
                    · rw [within_out _ _ _ h9, Option.bind_some, if_neg (by simp)]
                  · rw [within_out _ _ _ h8, Option.bind_some, Bool.not_false]; rfl
                · rw [within_out _ _ _ h7, Option.bind_some, if_neg (by simp)]; rfl
              · rw [within_out _ _ _ h6, Option.bind_some, Bool.not_false]; rfl
            · rw [within_out _ _ _ h5, Option.bind_some, if_neg (by simp)]; rfl
          · rw [within_out _ _ _ h4, Option.bind_some, if_neg (by simp)]; rfl
      · rw [within_out _ _ _ h2, Option.bind_some, if_neg (by simp)]; rfl
    · rw [within_out _ _ _ h1, Option.bind_some, if_neg (by simp)]; rfl
/-- How long who begins says nothing. -/
def qt (n s wd rh sl : Int) : Int := (2 * (n * s) + wd) * (100 + (rh + sl)) / (100 - (rh + sl)) + 200
theorem rnd_bd (n s : Int) (h0 : 1 ≤ n) (h1 : n ≤ 8) (h2 : 300 ≤ s) (h3 : s ≤ 10000) : 300 ≤ n * s ∧ n * s ≤ 80000 ∧ s ≤ n * s := by
  have a := Int.mul_le_mul h0 h2 (by omega) (by omega)
  have b := Int.mul_le_mul h1 h3 (by omega) (by omega)
  have c := Int.mul_le_mul_of_nonneg_right h0 (show 0 ≤ s by omega)
  omega
theorem num_bd (n s wd rh sl : Int) (h0 : 1 ≤ n) (h1 : n ≤ 8) (h2 : 300 ≤ s) (h3 : s ≤ 10000) (h4 : 100 ≤ wd) (h5 : wd ≤ 4 * s) (h6 : 0 ≤ rh) (h7 : rh ≤ 5) (h8 : 0 ≤ sl) (h9 : sl ≤ 5) :
    0 ≤ (2 * (n * s) + wd) * (100 + (rh + sl)) ∧ (2 * (n * s) + wd) * (100 + (rh + sl)) ≤ 22000000 ∧ 0 ≤ (2 * (n * s) + wd) * (100 + (rh + sl)) / (100 - (rh + sl)) ∧ (2 * (n * s) + wd) * (100 + (rh + sl)) / (100 - (rh + sl)) ≤ 9 * (n * s) := by
  have hr := rnd_bd n s h0 h1 h2 h3
  have a := Int.mul_nonneg (show 0 ≤ 2 * (n * s) + wd by omega) (show 0 ≤ 100 + (rh + sl) by omega)
  have b := Int.mul_le_mul (show 2 * (n * s) + wd ≤ 200000 by omega) (show 100 + (rh + sl) ≤ 110 by omega) (by omega) (by omega)
  have c := Int.mul_le_mul (show 2 * (n * s) + wd ≤ 6 * (n * s) by omega) (show 100 + (rh + sl) ≤ 110 by omega) (by omega) (by omega)
  have d := Int.mul_le_mul_of_nonneg_left (show (90 : Int) ≤ 100 - (rh + sl) by omega) (show 0 ≤ 9 * (n * s) by omega)
  refine ⟨a, by omega, Int.ediv_nonneg a (by omega), ?_⟩
  exact Int.le_of_lt_add_one (Int.ediv_lt_of_lt_mul (by omega) (by rw [Int.add_mul (9 * (n * s)) 1]; omega))
theorem qt_bd (n s wd rh sl : Int) (h0 : 1 ≤ n) (h1 : n ≤ 8) (h2 : 300 ≤ s) (h3 : s ≤ 10000) (h4 : 100 ≤ wd) (h5 : wd ≤ 4 * s) (h6 : 0 ≤ rh) (h7 : rh ≤ 5) (h8 : 0 ≤ sl) (h9 : sl ≤ 5) : 200 ≤ qt n s wd rh sl ∧ qt n s wd rh sl ≤ 10 * (n * s) := by
  have := num_bd n s wd rh sl h0 h1 h2 h3 h4 h5 h6 h7 h8 h9
  have hr := rnd_bd n s h0 h1 h2 h3
  unfold qt; omega
theorem planned_in (k : Nat) (n f s dl ks e wd rh sl cp : Int) (h : Ok n f s dl ks e wd rh sl cp) : sched_planned.f (k + 3) n f s dl ks e wd rh sl cp = some (n, f, s, dl, ks, e, wd, rh, sl, cp, n * s, 2 * (n * s), qt n s wd rh sl, true) := by
  have hc := check_in k n f s dl ks e wd rh sl cp h
  unfold Ok at h
  have hr := rnd_bd n s (by omega) (by omega) (by omega) (by omega)
  have hn := num_bd n s wd rh sl (by omega) (by omega) (by omega) (by omega) (by omega) (by omega) (by omega) (by omega) (by omega) (by omega)
  unfold sched_planned.f
  rw [hc, Option.bind_some, if_pos rfl, w64 (n := rh + sl) (by omega) (by omega), w64 (n := 100 - (rh + sl)) (by omega) (by omega), if_neg (by omega), w64 (n := n * s) (by omega) (by omega), w64 (n := 2 * (n * s)) (by omega) (by omega), w64 (n := 2 * (n * s) + wd) (by omega) (by omega), w64 (n := 100 + (rh + sl)) (by omega) (by omega), w64 (n := (2 * (n * s) + wd) * (100 + (rh + sl))) (by omega) (by omega), Int.tdiv_eq_ediv_of_nonneg hn.1, w64 (n := (2 * (n * s) + wd) * (100 + (rh + sl)) / (100 - (rh + sl))) (by omega) (by omega), w64 (by omega) (by omega)]
  rfl
theorem planned_out (k : Nat) (n f s dl ks e wd rh sl cp : Int) (h : ¬ Ok n f s dl ks e wd rh sl cp) : sched_planned.f (k + 3) n f s dl ks e wd rh sl cp = some (0, 0, 0, 0, 0, 0, 0, 0, 0, 0, 0, 0, 0, false) := by
  unfold sched_planned.f
  rw [check_out k n f s dl ks e wd rh sl cp h]; rfl
def upq (q r : Int) : Int := if q % r = 0 then q / r else q / r + 1
theorem upq_eq (q r : Int) (hr : 0 < r) : (q + r - 1) / r = upq q r := by
  have hdm := Int.mul_ediv_add_emod q r
  have hm0 := Int.emod_nonneg q (show r ≠ 0 by omega)
  have hm1 := Int.emod_lt_of_pos q hr
  rw [Int.mul_comm] at hdm
  unfold upq
  split
  · rw [show q + r - 1 = (r - 1) + q / r * r by omega, Int.add_mul_ediv_right _ _ (by omega), Int.ediv_eq_zero_of_lt (a := r - 1) (b := r) (by omega) (by omega)]; omega
  · rw [show q + r - 1 = (q % r - 1) + (q / r + 1) * r by rw [Int.add_mul]; omega, Int.add_mul_ediv_right _ _ (by omega), Int.ediv_eq_zero_of_lt (a := q % r - 1) (b := r) (by omega) (by omega)]; omega
def pat (n s dl wd rh sl i : Int) : Int := 2 * (dl + 1) + 8 + (n - 1 - i) * (6 + upq (qt n s wd rh sl) (n * s))
theorem upq_bd (n s wd rh sl : Int) (h0 : 1 ≤ n) (h1 : n ≤ 8) (h2 : 300 ≤ s) (h3 : s ≤ 10000) (h4 : 100 ≤ wd) (h5 : wd ≤ 4 * s) (h6 : 0 ≤ rh) (h7 : rh ≤ 5) (h8 : 0 ≤ sl) (h9 : sl ≤ 5) :
    0 ≤ qt n s wd rh sl / (n * s) ∧ qt n s wd rh sl / (n * s) ≤ 10 ∧ 0 ≤ upq (qt n s wd rh sl) (n * s) ∧ upq (qt n s wd rh sl) (n * s) ≤ 11 := by
  have hq := qt_bd n s wd rh sl h0 h1 h2 h3 h4 h5 h6 h7 h8 h9
  have hr := rnd_bd n s h0 h1 h2 h3
  have a := Int.ediv_nonneg (show 0 ≤ qt n s wd rh sl by omega) (show 0 ≤ n * s by omega)
  have b : qt n s wd rh sl / (n * s) ≤ 10 := Int.le_of_lt_add_one (Int.ediv_lt_of_lt_mul (by omega) (by rw [Int.add_mul]; omega))
  unfold upq
  split <;> omega
theorem pat_bd (n f s dl ks e wd rh sl cp i : Int) (h : Ok n f s dl ks e wd rh sl cp) (i0 : 0 ≤ i) (i1 : i < n) : 12 ≤ pat n s dl wd rh sl i ∧ pat n s dl wd rh sl i ≤ 1000 := by
  unfold Ok at h
  have hu := upq_bd n s wd rh sl (by omega) (by omega) (by omega) (by omega) (by omega) (by omega) (by omega) (by omega) (by omega) (by omega)
  have a := Int.mul_nonneg (show 0 ≤ n - 1 - i by omega) (show 0 ≤ 6 + upq (qt n s wd rh sl) (n * s) by omega)
  have b := Int.mul_le_mul (show n - 1 - i ≤ 7 by omega) (show 6 + upq (qt n s wd rh sl) (n * s) ≤ 17 by omega) (by omega) (by omega)
  unfold pat; omega
theorem rround_in (n f s dl ks e wd rh sl cp : Int) (h : Ok n f s dl ks e wd rh sl cp) : carillonref16_Round.f n f s dl ks e wd rh sl cp = some (n * s) := by
  unfold carillonref16_Round.f
  rw [rcheck_in n f s dl ks e wd rh sl cp h]
  unfold Ok at h
  have hr := rnd_bd n s (by omega) (by omega) (by omega) (by omega)
  rw [Option.bind_some, if_pos rfl, w64 (by omega) (by omega)]
theorem rkeep_in (n f s dl ks e wd rh sl cp : Int) (h : Ok n f s dl ks e wd rh sl cp) : carillonref16_Keep.f n f s dl ks e wd rh sl cp = some (2 * (n * s)) := by
  unfold carillonref16_Keep.f
  rw [rround_in n f s dl ks e wd rh sl cp h]
  unfold Ok at h
  have hr := rnd_bd n s (by omega) (by omega) (by omega) (by omega)
  rw [Option.bind_some, w64 (by omega) (by omega)]
end Go.Proofs.Ytfaikkhnlioajaa.Sch
