/- Go functions told as Lean functions, and their walks. -/
import Derived.Test.YtfaikkhnlioajaaQBasex0
import Derived.Test.YtfaikkhnlioajaaQBasex1
import Derived.Test.YtfaikkhnlioajaaQBasex2
import Derived.Test.YtfaikkhnlioajaaBRef16From
namespace Go.Proofs.Ytfaikkhnlioajaa.QBase
open Go.RowKit Go.Proofs.YtfaikkhnlioajaaW.PrintWords Go.Proofs.YtfaikkhnlioajaaW.PrintLast Go.Proofs.YtfaikkhnlioajaaW.PrintMore
attribute [local go_sem] max2_int min2_int max_two min_two max_three min_three max_four min_four   -- for this text's walks alone
set_option linter.unusedVariables false
set_option linter.unusedSimpArgs false

attribute [local go_sem high] eqA23
/-! ### carillonref16_Check: function 51 -/
def carillonref16_Check.f (a0_0 : Int) (a0_1 : Int) (a0_2 : Int) (a0_3 : Int) (a0_4 : Int) (a0_5 : Int) (a0_6 : Int) (a0_7 : Int) (a0_8 : Int) (a0_9 : Int) : Option (Int) := (carillonref16_from.f a0_0 1 8).bind fun t150 => (if t150 = true then ((carillonref16_from.f a0_1 0 8).bind fun t151 => (if t151 = true then (if (wrap64 (3 * a0_1)) < a0_0 then ((carillonref16_from.f a0_2 300 10000).bind fun t152 => (if t152 = true then ((carillonref16_from.f a0_3 1 4).bind fun t153 => (if t153 = true then ((carillonref16_from.f a0_4 (wrap64 (a0_3 + 4)) 256).bind fun t154 => (if t154 = true then ((carillonref16_from.f a0_5 1 (wrap64 (4 * a0_2))).bind fun t155 => (if t155 = true then ((carillonref16_from.f a0_6 100 (wrap64 (4 * a0_2))).bind fun t156 => (if t156 = true then ((carillonref16_from.f a0_7 0 5).bind fun t157 => (if t157 = true then ((carillonref16_from.f a0_8 0 5).bind fun t158 => (if t158 = true then ((carillonref16_from.f a0_9 1 64).bind fun t159 => (if t159 = true then (some 0) else (some 1))) else (some 1))) else (some 1))) else (some 1))) else (some 1))) else (some 1))) else (some 1))) else (some 1))) else (some 1)) else (some 1))) else (some 1))
/-! ### the check of a config -/
theorem w64 {n : Int} (h0 : -9223372036854775808 ≤ n) (h1 : n ≤ 9223372036854775807) : wrap64 n = n := by unfold wrap64; omega
def Ok (n f s dl ks e wd rh sl cp : Int) : Prop := 1 ≤ n ∧ n ≤ 8 ∧ 0 ≤ f ∧ f ≤ 8 ∧ 3 * f < n ∧ 300 ≤ s ∧ s ≤ 10000 ∧ 1 ≤ dl ∧ dl ≤ 4 ∧ dl + 4 ≤ ks ∧ ks ≤ 256 ∧ 1 ≤ e ∧ e ≤ 4 * s ∧ 100 ≤ wd ∧ wd ≤ 4 * s ∧ 0 ≤ rh ∧ rh ≤ 5 ∧ 0 ≤ sl ∧ sl ≤ 5 ∧ 1 ≤ cp ∧ cp ≤ 64
instance (n f s dl ks e wd rh sl cp : Int) : Decidable (Ok n f s dl ks e wd rh sl cp) := by unfold Ok; infer_instance
theorem from_in (a b c : Int) (h : b ≤ a) (h' : a ≤ c) : carillonref16_from.f a b c = some true := by unfold carillonref16_from.f; rw [if_pos h, decide_eq_true h']
theorem from_out (a b c : Int) (h : ¬ (b ≤ a ∧ a ≤ c)) : carillonref16_from.f a b c = some false := by
  unfold carillonref16_from.f
  by_cases h1 : a ≥ b
  · rw [if_pos h1, decide_eq_false (by omega)]
  · rw [if_neg h1]
theorem rcheck_in (n f s dl ks e wd rh sl cp : Int) (h : Ok n f s dl ks e wd rh sl cp) : carillonref16_Check.f n f s dl ks e wd rh sl cp = some 0 := by
  unfold Ok at h
  unfold carillonref16_Check.f
  rw [from_in _ _ _ (by omega) (by omega), Option.bind_some, if_pos rfl, from_in _ _ _ (by omega) (by omega), Option.bind_some, if_pos rfl, w64 (n := 3 * f) (by omega) (by omega), if_pos (by omega)]
  rw [from_in _ _ _ (by omega) (by omega), Option.bind_some, if_pos rfl, from_in _ _ _ (by omega) (by omega), Option.bind_some, if_pos rfl, w64 (n := dl + 4) (by omega) (by omega), from_in _ _ _ (by omega) (by omega), Option.bind_some, if_pos rfl]
  rw [w64 (n := 4 * s) (by omega) (by omega), from_in _ _ _ (by omega) (by omega), Option.bind_some, if_pos rfl, from_in _ _ _ (by omega) (by omega), Option.bind_some, if_pos rfl]
  rw [from_in _ _ _ (by omega) (by omega), Option.bind_some, if_pos rfl, from_in _ _ _ (by omega) (by omega), Option.bind_some, if_pos rfl, from_in _ _ _ (by omega) (by omega), Option.bind_some, if_pos rfl]
theorem rcheck_out (n f s dl ks e wd rh sl cp : Int) (h : ¬ Ok n f s dl ks e wd rh sl cp) : carillonref16_Check.f n f s dl ks e wd rh sl cp = some 1 := by
  unfold Ok at h
  unfold carillonref16_Check.f
  by_cases h1 : 1 ≤ n ∧ n ≤ 8
  · rw [from_in _ _ _ h1.1 h1.2, Option.bind_some, if_pos rfl]
    by_cases h2 : 0 ≤ f ∧ f ≤ 8
    · rw [from_in _ _ _ h2.1 h2.2, Option.bind_some, if_pos rfl, w64 (n := 3 * f) (by omega) (by omega)]
      by_cases h3 : 3 * f < n
      · rw [if_pos h3]
        by_cases h4 : 300 ≤ s ∧ s ≤ 10000
        · rw [from_in _ _ _ h4.1 h4.2, Option.bind_some, if_pos rfl]
          by_cases h5 : 1 ≤ dl ∧ dl ≤ 4
          · rw [from_in _ _ _ h5.1 h5.2, Option.bind_some, if_pos rfl, w64 (n := dl + 4) (by omega) (by omega)]
            by_cases h6 : dl + 4 ≤ ks ∧ ks ≤ 256
            · rw [from_in _ _ _ h6.1 h6.2, Option.bind_some, if_pos rfl, w64 (n := 4 * s) (by omega) (by omega)]
              by_cases h7 : 1 ≤ e ∧ e ≤ 4 * s
              · rw [from_in _ _ _ h7.1 h7.2, Option.bind_some, if_pos rfl]
                by_cases h8 : 100 ≤ wd ∧ wd ≤ 4 * s
                · rw [from_in _ _ _ h8.1 h8.2, Option.bind_some, if_pos rfl]
                  by_cases h9 : 0 ≤ rh ∧ rh ≤ 5
                  · rw [from_in _ _ _ h9.1 h9.2, Option.bind_some, if_pos rfl]
                    by_cases h10 : 0 ≤ sl ∧ sl ≤ 5
                    · rw [from_in _ _ _ h10.1 h10.2, Option.bind_some, if_pos rfl, from_out _ _ _ (by omega), Option.bind_some, if_neg (by simp)]
                    · rw [from_out _ _ _ h10, Option.bind_some, if_neg (by simp)]
                  · rw [from_out _ _ _ h9, Option.bind_some, if_neg (by simp)]
                · rw [from_out _ _ _ h8, Option.bind_some, if_neg (by simp)]
              · rw [from_out _ _ _ h7, Option.bind_some, if_neg (by simp)]
            · rw [from_out _ _ _ h6, Option.bind_some, if_neg (by simp)]
          · rw [from_out _ _ _ h5, Option.bind_some, if_neg (by simp)]
        · rw [from_out _ _ _ h4, Option.bind_some, if_neg (by simp)]
      · rw [if_neg h3]
    · rw [from_out _ _ _ h2, Option.bind_some, if_neg (by simp)]
  · rw [from_out _ _ _ h1, Option.bind_some, if_neg (by simp)]
end Go.Proofs.Ytfaikkhnlioajaa.QBase
