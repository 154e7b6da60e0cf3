/- Texts of this seat, one behind the other: BrP Br1 Br2. -/
import Derived.Test.YtfaikkhnlioajaaSch
import Derived.Test.YtfaikkhnlioajaaZI
import Derived.Test.YtfaikkhnlioajaaZR
import Derived.Test.YtfaikkhnlioajaaProg
import Derived.Below
import Derived.Deep.Draws
import Derived.Deep.AppendLies
import Derived.Maps.AppendAt
import Derived.OwnWalk
import Derived.Laws.BytesArg
import Derived.Laws.MakeOwn
import Derived.Laws.OwnMore
import Derived.Deep.OwnRows
import Derived.Tactics
import Derived.Lib.ConvBytes
import Derived.Laws.Slices
import Derived.WalkKit
import Derived.KernelRfl
import Derived.RowKit3
import Derived.Deep.LoopGhost
import Derived.Deep.QuietTactic
import Derived.BigQuiet
import Derived.WideLaws
import Derived.Deep.DeepCutAuto
import Derived.Deep.CutBlock
import Derived.Deep.RegionHeld3
import Derived.Laws.Rows
import Derived.Lib.AppendStr
import Derived.ArgAppend
import Derived.Laws.IdiomCopy
import Derived.OrdersHeld
import Derived.Laws.BitsLemmas
import Derived.RowKit
import Derived.RegionTactic
import Derived.ChangeAlike
import Derived.Outline
import Derived.LoopTactic
import Derived.WalkSpells
import Derived.WalkLawsBesides
import Derived.Lib.Hide
import Derived.StillTailTactics
import Derived.Deep.RegionWith
import Derived.Deep.RegionLaw
import Derived.Deep.DeepFit
import Derived.Deep.DeepMust
import Derived.Test.YtfaikkhnlioajaaWWords
import Derived.Test.YtfaikkhnlioajaaWLast
import Derived.Test.YtfaikkhnlioajaaWTab
import Derived.Test.YtfaikkhnlioajaaWFour
import Derived.Test.YtfaikkhnlioajaaWQPut
import Derived.Test.YtfaikkhnlioajaaWApart
import Derived.Test.YtfaikkhnlioajaaWArr
import Derived.Test.YtfaikkhnlioajaaWZeros
import Derived.Test.YtfaikkhnlioajaaWFoot
import Derived.Test.YtfaikkhnlioajaaWKept
import Derived.Test.YtfaikkhnlioajaaWShare
import Derived.Test.YtfaikkhnlioajaaWN
import Derived.Test.YtfaikkhnlioajaaWFootNe
import Derived.Test.YtfaikkhnlioajaaWAt
import Derived.Test.YtfaikkhnlioajaaWEqStruct
import Derived.Test.YtfaikkhnlioajaaWRepsOne
import Derived.Test.YtfaikkhnlioajaaWInv
import Derived.Test.YtfaikkhnlioajaaWInvWords
import Derived.Test.YtfaikkhnlioajaaWGuard
import Derived.Test.YtfaikkhnlioajaaWNEv
import Derived.Test.YtfaikkhnlioajaaWMore
import Derived.Test.YtfaikkhnlioajaaZG
section
namespace Go.Proofs.Ytfaikkhnlioajaa.BrP
set_option linter.unusedVariables false
set_option linter.unusedSimpArgs false
open Go.RowKit Go.Proofs.YtfaikkhnlioajaaW.PrintWords Go.Proofs.YtfaikkhnlioajaaW.PrintLast Go.Proofs.YtfaikkhnlioajaaW.PrintMore Go.Proofs.Ytfaikkhnlioajaa.QBase
def R (a b : Int) : Prop := a ≤ b ∧ -1099511627776 ≤ a ∧ b ≤ 1099511627776
instance (a b : Int) : Decidable (R a b) := by unfold R; infer_instance
theorem right_eq (a b : Int) : ival_Right.f a b = some (decide (R a b)) := by
  unfold ival_Right.f R
  by_cases h1 : a ≤ b
  · by_cases h2 : a ≥ -1099511627776
    · rw [if_pos h1, if_pos h2]; simp [h1, h2]
    · rw [if_pos h1, if_neg h2]; simp [h2]
  · rw [if_neg h1]; simp [h1]
theorem holds_eq (a b n : Int) : ival_Holds.f a b n = some (decide (R a b ∧ a ≤ n ∧ n ≤ b)) := by
  unfold ival_Holds.f
  rw [right_eq]
  by_cases h : R a b
  · by_cases h2 : a ≤ n
    · simp [h, h2]
    · simp [h2]
  · simp [h]
theorem made_eq (a b e : Int) : ival_made.f a b e = if R a b then some (a, b, 0) else some (0, 0, e) := by
  unfold ival_made.f; rw [right_eq]; by_cases h : R a b <;> simp [h]
theorem make_eq (a b : Int) : ival_Make.f a b = if R a b then some (a, b, 0) else some (0, 0, 1) := by
  unfold ival_Make.f; rw [made_eq]; by_cases h : R a b <;> simp [h]
theorem rright_eq (a b : Int) : carillonref08_Right.f a b = some (decide (R a b)) := by
  unfold carillonref08_Right.f R
  by_cases h1 : a ≤ b
  · by_cases h2 : a ≥ -1099511627776
    · rw [if_pos h2, if_pos h1]; simp [h1, h2]
    · rw [if_neg h2]; simp [h2]
  · by_cases h2 : a ≥ -1099511627776
    · rw [if_pos h2, if_neg h1]; simp [h1]
    · rw [if_neg h2]; simp [h2]
theorem rmake_eq (a b : Int) : carillonref08_Make.f a b = if R a b then some (a, b, 0) else some (0, 0, 1) := by
  unfold carillonref08_Make.f; rw [rright_eq]; by_cases h : R a b <;> simp [h]
theorem w64 {n : Int} (h0 : -9223372036854775808 ≤ n) (h1 : n ≤ 9223372036854775807) : wrap64 n = n := by unfold wrap64; omega
theorem may_in (a d : Int) (h0 : 0 ≤ d) (h1 : d ≤ 49) (h2 : 0 ≤ a) (h3 : a ≤ 1099511627776) : rate_may.f a d = some true := by
  unfold rate_may.f; rw [if_pos h0, if_pos h1, if_pos h2, decide_eq_true h3]
theorem may_out (a d : Int) (h : ¬ (0 ≤ d ∧ d ≤ 49 ∧ 0 ≤ a ∧ a ≤ 1099511627776)) : rate_may.f a d = some false := by
  unfold rate_may.f
  split
  · split
    · split
      · rw [decide_eq_false (by omega)]
      · rfl
    · rfl
  · rfl
theorem ends_in (d : Int) (h0 : 0 ≤ d) (h1 : d ≤ 49) : rate_ends.f d = some (100 - d, 100 + d) := by
  unfold rate_ends.f; rw [w64 (by omega) (by omega), w64 (by omega) (by omega)]
def up (a b : Int) : Int := if a % b = 0 then a / b else a / b + 1
theorem div_bd (a b : Int) (h0 : 0 ≤ a) (hb : 0 < b) : 0 ≤ a / b ∧ a / b ≤ a := ⟨Int.ediv_nonneg h0 (by omega), Int.ediv_le_self _ h0⟩
theorem quot_down (a b : Int) (h0 : 0 ≤ a) (h1 : a ≤ 1000000000000000000) (hb : 0 < b) : rate_quotient_int64.f a b 0 = some (a / b) := by
  have h := div_bd a b h0 hb
  unfold rate_quotient_int64.f
  rw [if_neg (by omega), if_neg (by omega), Int.tdiv_eq_ediv_of_nonneg h0, w64 (by omega) (by omega)]
theorem quot_up (a b : Int) (h0 : 0 ≤ a) (h1 : a ≤ 1000000000000000000) (hb : 0 < b) : rate_quotient_int64.f a b 1 = some (up a b) := by
  have h := div_bd a b h0 hb
  unfold rate_quotient_int64.f up
  rw [if_neg (by omega), if_pos rfl, Int.tdiv_eq_ediv_of_nonneg h0, Int.tmod_eq_emod_of_nonneg h0, w64 (n := a / b) (by omega) (by omega), w64 (by omega) (by omega)]
  split <;> rfl
theorem mul_bd (a x : Int) (h2 : 0 ≤ a) (h3 : a ≤ 1099511627776) (hx0 : 0 ≤ x) (hx : x ≤ 149) : 0 ≤ a * x ∧ a * x ≤ 1000000000000000 := by
  have h1 := Int.mul_nonneg h2 hx0
  have h4 := Int.mul_le_mul h3 hx hx0 (by omega)
  omega
theorem most_in (a d : Int) (h0 : 0 ≤ d) (h1 : d ≤ 49) (h2 : 0 ≤ a) (h3 : a ≤ 1099511627776) : rate_Most.f a d = some (a * (100 + d) / (100 - d), 0) := by
  have hb := mul_bd a (100 + d) h2 h3 (by omega) (by omega)
  unfold rate_Most.f
  rw [may_in a d h0 h1 h2 h3, ends_in d h0 h1]
  simp only [Option.bind_some, if_true]
  rw [w64 (by omega) (by omega), quot_down _ _ hb.1 (by omega) (by omega)]
  rfl
theorem most_out (a d : Int) (h : ¬ (0 ≤ d ∧ d ≤ 49 ∧ 0 ≤ a ∧ a ≤ 1099511627776)) : rate_Most.f a d = some (0, 1) := by
  unfold rate_Most.f; rw [may_out a d h]; rfl
theorem least_in (a d : Int) (h0 : 0 ≤ d) (h1 : d ≤ 49) (h2 : 0 ≤ a) (h3 : a ≤ 1099511627776) : rate_Least.f a d = some (up (a * (100 - d)) (100 + d), 0) := by
  have hb := mul_bd a (100 - d) h2 h3 (by omega) (by omega)
  unfold rate_Least.f
  rw [may_in a d h0 h1 h2 h3, ends_in d h0 h1]
  simp only [Option.bind_some, if_true]
  rw [w64 (by omega) (by omega), quot_up _ _ hb.1 (by omega) (by omega)]
  rfl
theorem least_out (a d : Int) (h : ¬ (0 ≤ d ∧ d ≤ 49 ∧ 0 ≤ a ∧ a ≤ 1099511627776)) : rate_Least.f a d = some (0, 1) := by
  unfold rate_Least.f; rw [may_out a d h]; rfl
theorem most_sub (a d : Int) (h1 : d ≤ 49) : a * (100 + d) / (100 - d) - a = 2 * d * a / (100 - d) := by
  have e : a * (100 + d) = 2 * d * a + a * (100 - d) := by
    rw [Int.mul_add, Int.mul_sub, Int.mul_assoc 2 d a, Int.mul_comm d a]; omega
  rw [e, Int.add_mul_ediv_right _ _ (by omega)]; omega
theorem least_sub (a d : Int) (h0 : 0 ≤ d) : a - up (a * (100 - d)) (100 + d) = 2 * d * a / (100 + d) := by
  have e : 2 * d * a = a * (100 + d) - a * (100 - d) := by
    rw [Int.mul_add, Int.mul_sub, Int.mul_assoc 2 d a, Int.mul_comm d a]; omega
  have hy : (0 : Int) < 100 + d := by omega
  generalize hp : a * (100 - d) = p at *
  generalize hyy : 100 + d = y at *
  have hdm := Int.mul_ediv_add_emod p y
  have hm0 := Int.emod_nonneg p (show y ≠ 0 by omega)
  have hm1 := Int.emod_lt_of_pos p hy
  unfold up
  rw [e]
  split
  · rename_i hz
    have e2 : a * y - p = 0 + (a - p / y) * y := by rw [Int.sub_mul, Int.mul_comm (p / y) y]; omega
    rw [e2, Int.add_mul_ediv_right _ _ (by omega)]; simp
  · rename_i hz
    have e2 : a * y - p = (y - p % y) + (a - p / y - 1) * y := by rw [Int.sub_mul, Int.sub_mul, Int.mul_comm (p / y) y]; omega
    rw [e2, Int.add_mul_ediv_right _ _ (by omega), Int.ediv_eq_zero_of_lt (a := y - p % y) (b := y) (by omega) (by omega)]; omega
def spr (a d : Int) : Int := max (2 * d * a / (100 - d)) (2 * d * a / (100 + d))
theorem spr_bd (a d : Int) (h0 : 0 ≤ d) (h1 : d ≤ 49) (h2 : 0 ≤ a) (h3 : a ≤ 1099511627776) : 0 ≤ 2 * d * a / (100 - d) ∧ 2 * d * a / (100 - d) ≤ 1000000000000000 ∧ 0 ≤ 2 * d * a / (100 + d) ∧ 2 * d * a / (100 + d) ≤ 1000000000000000 := by
  have hb := mul_bd a (2 * d) h2 h3 (by omega) (by omega)
  rw [Int.mul_comm a] at hb
  have x1 := div_bd (2 * d * a) (100 - d) hb.1 (by omega)
  have x2 := div_bd (2 * d * a) (100 + d) hb.1 (by omega)
  omega
theorem spread_in (a d : Int) (h0 : 0 ≤ d) (h1 : d ≤ 49) (h2 : 0 ≤ a) (h3 : a ≤ 1099511627776) : rate_Spread.f a d = some (spr a d, 0) := by
  have hb := spr_bd a d h0 h1 h2 h3
  unfold rate_Spread.f
  rw [most_in a d h0 h1 h2 h3, least_in a d h0 h1 h2 h3]
  simp only [Option.bind_some, if_true]
  rw [most_sub a d h1, least_sub a d h0, w64 (by omega) (by omega), w64 (by omega) (by omega)]
  unfold spr mx
  congr 2; split <;> omega
theorem spread_out (a d : Int) (h : ¬ (0 ≤ d ∧ d ≤ 49 ∧ 0 ≤ a ∧ a ≤ 1099511627776)) : rate_Spread.f a d = some (0, 1) := by
  unfold rate_Spread.f; rw [most_out a d h]; rfl
theorem spr_nonneg (a d : Int) (h0 : 0 ≤ d) (h1 : d ≤ 49) (h2 : 0 ≤ a) (h3 : a ≤ 1099511627776) : 0 ≤ spr a d := by
  have := spr_bd a d h0 h1 h2 h3; unfold spr; omega
theorem rmay (a d : Int) : carillonref07_may.f a d = rate_may.f a d := rfl
theorem rup (a b : Int) (h0 : 0 ≤ a) (h1 : a ≤ 1000000000000000000) (hb : 0 < b) : carillonref07_up.f a b = some (up a b) := by
  have h := div_bd a b h0 hb
  have hdm := Int.mul_ediv_add_emod a b
  have hm0 := Int.emod_nonneg a (show b ≠ 0 by omega)
  have hm : 0 ≤ a / b * b := Int.mul_nonneg h.1 (by omega)
  rw [Int.mul_comm] at hdm
  unfold carillonref07_up.f up
  rw [if_neg (by omega), Int.tdiv_eq_ediv_of_nonneg h0, w64 (n := a / b) (by omega) (by omega), w64 (n := a / b * b) (by omega) (by omega), w64 (n := a / b + 1) (by omega) (by omega)]
  by_cases hz : a % b = 0
  · rw [if_neg (by omega), if_pos hz]
  · rw [if_pos (by omega), if_neg hz]
theorem rmost (a d : Int) (h0 : 0 ≤ d) (h1 : d ≤ 49) (h2 : 0 ≤ a) (h3 : a ≤ 1099511627776) : carillonref07_Most.f a d = some (a * (100 + d) / (100 - d), 0) := by
  have hb := mul_bd a (100 + d) h2 h3 (by omega) (by omega)
  have hq := div_bd (a * (100 + d)) (100 - d) hb.1 (by omega)
  unfold carillonref07_Most.f
  rw [rmay, may_in a d h0 h1 h2 h3, w64 (n := 100 - d) (by omega) (by omega), w64 (n := 100 + d) (by omega) (by omega)]
  simp only [Option.bind_some, if_true]
  rw [if_neg (by omega), w64 (n := a * (100 + d)) (by omega) (by omega), Int.tdiv_eq_ediv_of_nonneg hb.1, w64 (by omega) (by omega)]
theorem rleast (a d : Int) (h0 : 0 ≤ d) (h1 : d ≤ 49) (h2 : 0 ≤ a) (h3 : a ≤ 1099511627776) : carillonref07_Least.f a d = some (up (a * (100 - d)) (100 + d), 0) := by
  have hb := mul_bd a (100 - d) h2 h3 (by omega) (by omega)
  unfold carillonref07_Least.f
  rw [rmay, may_in a d h0 h1 h2 h3, w64 (n := 100 - d) (by omega) (by omega), w64 (n := 100 + d) (by omega) (by omega)]
  simp only [Option.bind_some, if_true]
  rw [w64 (n := a * (100 - d)) (by omega) (by omega), rup _ _ hb.1 (by omega) (by omega)]; rfl
theorem rspread (a d : Int) (h0 : 0 ≤ d) (h1 : d ≤ 49) (h2 : 0 ≤ a) (h3 : a ≤ 1099511627776) : carillonref07_Spread.f a d = some (spr a d, 0) := by
  have hb := spr_bd a d h0 h1 h2 h3
  unfold carillonref07_Spread.f
  rw [rmost a d h0 h1 h2 h3, rleast a d h0 h1 h2 h3]
  simp only [Option.bind_some, if_true]
  rw [most_sub a d h1, least_sub a d h0, w64 (by omega) (by omega), w64 (by omega) (by omega)]
  unfold spr mx
  congr 2; split <;> omega
theorem meet_eq (a b c d : Int) : ival_Meet.f a b c d = if R a b ∧ R c d then (if mx a c ≤ mn b d then some (mx a c, mn b d, 0) else some (0, 0, 6)) else some (0, 0, 1) := by
  unfold ival_Meet.f ival_both.f
  rw [right_eq, right_eq]
  by_cases h : R a b
  · by_cases h2 : R c d
    · have e : R (mx a c) (mn b d) ↔ mx a c ≤ mn b d := by unfold R mx mn at *; constructor <;> intro h3 <;> (try split at h3) <;> (try split at h3) <;> (try split) <;> (try split) <;> omega
      by_cases h3 : mx a c ≤ mn b d
      · have h4 := e.2 h3; simp [h, h2, h3, made_eq, h4]
      · have h4 : ¬ R (mx a c) (mn b d) := fun x => h3 (e.1 x)
        simp [h, h2, h3, made_eq, h4]
    · simp [h, h2]
  · simp [h]
theorem rholds_eq (a b n : Int) : carillonref08_Holds.f a b n = ival_Holds.f a b n := by
  unfold carillonref08_Holds.f ival_Holds.f; rw [rright_eq, right_eq]
theorem rmeet_eq (k : Nat) (a b c d : Int) : carillonref08_Meet.f (k + 1) a b c d = ival_Meet.f a b c d := by
  rw [meet_eq]
  unfold carillonref08_Meet.f
  rw [rright_eq, rright_eq]
  by_cases h : R a b
  · by_cases h2 : R c d
    · have e : R (mx a c) (mn b d) ↔ mx a c ≤ mn b d := by unfold R mx mn at *; constructor <;> intro h3 <;> (try split at h3) <;> (try split at h3) <;> (try split) <;> (try split) <;> omega
      by_cases h3 : mx a c ≤ mn b d
      · have h4 := e.2 h3; simp [h, h2, h3, rmake_eq, h4, carillonref08_Meet.j0]
      · have h4 : ¬ R (mx a c) (mn b d) := fun x => h3 (e.1 x)
        simp [h, h2, h3, rmake_eq, h4, carillonref08_Meet.j0]
    · simp [h, h2, carillonref08_Meet.j0]
  · simp [h, carillonref08_Meet.j0]
theorem meet_some (a b c d : Int) : ∃ x y z, ival_Meet.f a b c d = some (x, y, z) := by
  rw [meet_eq]; split
  · split <;> exact ⟨_, _, _, rfl⟩
  · exact ⟨_, _, _, rfl⟩
theorem spread_same (a d : Int) : ∃ x y, rate_Spread.f a d = some (x, y) ∧ carillonref07_Spread.f a d = some (x, y) := by
  by_cases h : 0 ≤ d ∧ d ≤ 49 ∧ 0 ≤ a ∧ a ≤ 1099511627776
  · obtain ⟨h0, h1, h2, h3⟩ := h
    exact ⟨_, _, spread_in a d h0 h1 h2 h3, rspread a d h0 h1 h2 h3⟩
  · refine ⟨_, _, spread_out a d h, ?_⟩
    have e1 : carillonref07_Most.f a d = some (0, 1) := by unfold carillonref07_Most.f; rw [rmay, may_out a d h]; rfl
    have e2 : carillonref07_Least.f a d = some (0, 1) := by unfold carillonref07_Least.f; rw [rmay, may_out a d h]; rfl
    unfold carillonref07_Spread.f; rw [e1, e2]; rfl
theorem grow_same (a b t d : Int) : ∃ x y z, ival_Grow.f a b t d = some (x, y, z) ∧ carillonref08_Grow.f a b t d = some (x, y, z) := by
  obtain ⟨x, y, h1, h2⟩ := spread_same t d
  have e : carillonref08_Grow.f a b t d = ival_Grow.f a b t d := by
    unfold carillonref08_Grow.f ival_Grow.f
    rw [h1, h2]; simp only [Option.bind_some]
    rw [rright_eq, right_eq, rmake_eq, make_eq]
  rw [e]
  unfold ival_Grow.f
  rw [h1, right_eq, Option.bind_some, make_eq]
  split
  · rw [Option.bind_some]
    split
    · split <;> exact ⟨_, _, _, rfl, rfl⟩
    · exact ⟨_, _, _, rfl, rfl⟩
  · exact ⟨_, _, _, rfl, rfl⟩
theorem inside_same (a b n : Int) (h0 : -9223372036854775808 ≤ n) (h1 : n ≤ 9223372036854775807) : ∃ x, ival_Inside.f a b n = some x ∧ carillonref08_Inside.f a b n = some x := by
  unfold ival_Inside.f carillonref08_Inside.f
  rw [right_eq, rright_eq, Option.bind_some, Option.bind_some]
  by_cases h : R a b
  · have hr := h
    unfold R at hr
    simp only [decide_eq_true h, if_true]
    by_cases hn : n < 0
    · rw [if_pos hn, if_neg (by omega)]; exact ⟨_, rfl, rfl⟩
    · have hm : 0 ≤ mn n 1099511627776 ∧ mn n 1099511627776 ≤ 1099511627776 := by unfold mn; split <;> omega
      rw [if_neg hn, w64 (n := -n) (by omega) (by omega), w64 (n := -mn n 1099511627776) (by omega) (by omega), if_pos (show n ≥ 0 by omega)]
      by_cases hb : b ≤ n
      · rw [if_pos hb]
        by_cases hg : n > 1099511627776
        · have e : mn n 1099511627776 = 1099511627776 := by unfold mn; rw [if_pos hg]
          rw [if_pos hg, e, if_pos (by omega)]; exact ⟨_, rfl, by rw [decide_eq_true (by omega)]⟩
        · have e : mn n 1099511627776 = n := by unfold mn; split <;> omega
          rw [if_neg hg, e]
          by_cases ha : a ≥ -n
          · rw [if_pos ha]; exact ⟨_, rfl, by rw [decide_eq_true hb, decide_eq_true ha]⟩
          · rw [if_neg ha]; exact ⟨_, rfl, by rw [decide_eq_false ha]⟩
      · rw [if_neg hb]
        have e : mn n 1099511627776 = n := by unfold mn; split <;> omega
        rw [e]
        split
        · exact ⟨_, rfl, by rw [decide_eq_false hb]⟩
        · exact ⟨_, rfl, rfl⟩
  · simp [h]
theorem grow_out (a b t d : Int) (h : ¬ R a b) (h0 : 0 ≤ d) (h1 : d ≤ 49) (h2 : 0 ≤ t) (h3 : t ≤ 1099511627776) : ival_Grow.f a b t d = some (0, 0, 1) := by
  unfold ival_Grow.f
  rw [spread_in t d h0 h1 h2 h3, right_eq]
  simp [h]
end Go.Proofs.Ytfaikkhnlioajaa.BrP
end
section
namespace Go.Proofs.Ytfaikkhnlioajaa.Br1
open Go.RowKit Go.Proofs.YtfaikkhnlioajaaW.PrintWords Go.Proofs.YtfaikkhnlioajaaW.PrintLast Go.Proofs.YtfaikkhnlioajaaW.PrintMore 
attribute [local go_sem] max2_int min2_int max_two min_two max_three min_three max_four min_four
set_option linter.unusedVariables false
set_option linter.unusedSimpArgs false
open Go.Proofs.Ytfaikkhnlioajaa.QBase Go.Proofs.Ytfaikkhnlioajaa.Sch Go.Proofs.Ytfaikkhnlioajaa.Plc Go.Proofs.Ytfaikkhnlioajaa.Gd1 Go.Proofs.Ytfaikkhnlioajaa.Gd2 Go.Proofs.Ytfaikkhnlioajaa.Gd3 Go.Proofs.Ytfaikkhnlioajaa.Gd4 Go.Maps

def enc3 (x : Int × Int × Int) : DataW Unit := .agg [.lit (.int .i64 x.1), .lit (.int .i64 x.2.1), .lit (.int .i64 x.2.2)]
def val3 (x : Int × Int × Int) : Value := .agg #[.int .i64 x.1, .int .i64 x.2.1, .int .i64 x.2.2]
theorem val3_inj {x y : Int × Int × Int} (h : val3 x = val3 y) : x = y := by
  obtain ⟨a, b, c⟩ := x
  obtain ⟨a', b', c'⟩ := y
  simp [val3] at h
  obtain ⟨rfl, rfl, rfl⟩ := h
  rfl
theorem enc3_inj {x y : Int × Int × Int} (h : enc3 x = enc3 y) : x = y := by
  obtain ⟨a, b, c⟩ := x
  obtain ⟨a', b', c'⟩ := y
  simp [enc3] at h
  obtain ⟨rfl, rfl, rfl⟩ := h
  rfl
open Classical in
/-- What is known of another one, as its map holds it. -/
noncomputable def RK (v : Value) : Option (DataW Unit × List MemPlace) := if h : ∃ x, v = val3 x then some (enc3 h.choose, []) else none
theorem RK_val (x : Int × Int × Int) : RK (val3 x) = some (enc3 x, []) := by
  have h : ∃ y, val3 x = val3 y := ⟨x, rfl⟩
  unfold RK
  rw [dif_pos h, ← val3_inj h.choose_spec]
theorem RK_inv {v : Value} {x : Int × Int × Int} {ps : List MemPlace} (h : RK v = some (enc3 x, ps)) : v = val3 x := by
  unfold RK at h
  split at h
  · rename_i hx
    simp only [Option.some.injEq, Prod.mk.injEq] at h
    rw [← enc3_inj h.1]
    exact hx.choose_spec
  · cases h
def KMap (w : World) (bm n : Nat) (M : Int → Option (Int × Int × Int)) : Prop :=
  ∃ D : DataW Unit, w.ownsMap Try.prog 3 RK bm n D ∧ ∀ x : Int, Maps.has D (.int .i64 x) = (M x).isSome ∧ D.atKey (.int .i64 x) (enc3 (0, 0, 0)) = enc3 ((M x).getD (0, 0, 0))
theorem KMap.made {w : World} {bm : Nat} (h : w.heap[bm]? = some (.map #[] 0)) : KMap w bm 0 (fun _ => none) := ⟨.map [], Go.Joins.ownsMap_empty h, fun _ => ⟨rfl, rfl⟩⟩
theorem KMap.kept {w w' : World} {bm n : Nat} {M : Int → Option (Int × Int × Int)} {row : Option Nat} (h : KMap w bm n M) (hg : w.grownBy w' row) (hne : some bm ≠ row) : KMap w' bm n M := let ⟨D, h1, h2⟩ := h; ⟨D, h1.kept hg hne, h2⟩
theorem KMap.drewN {w : World} {bm n : Nat} {M : Int → Option (Int × Int × Int)} (h : KMap w bm n M) (m : Nat) : KMap (w.drewN m) bm n M := h
theorem KMap.alloc {w : World} {bm n : Nat} {M : Int → Option (Int × Int × Int)} (h : KMap w bm n M) (o : Obj) : KMap (w.alloc o) bm n M := h.kept (World.grownBy_alloc w o none) (by simp)
theorem KMap.put {w : World} {bm n : Nat} {M : Int → Option (Int × Int × Int)} {D : DataW Unit} (r : Int) (q : Int × Int × Int) (h2 : ∀ x : Int, Maps.has D (.int .i64 x) = (M x).isSome ∧ D.atKey (.int .i64 x) (enc3 (0, 0, 0)) = enc3 ((M x).getD (0, 0, 0))) (hm : IsMap D)
    (h : w.ownsMap Try.prog 3 RK bm n (D.put (.int .i64 r) (enc3 q))) : KMap w bm n (fun x => if x = r then some q else M x) := by
  refine ⟨_, h, fun x => ?_⟩
  by_cases hx : x = r
  · subst hx
    refine ⟨?_, ?_⟩
    · rw [has_put_same (k := .int .i64 x) hm trivial]; simp
    · rw [atKey_put_same (k := .int .i64 x) hm trivial]; simp
  · refine ⟨?_, ?_⟩
    · rw [has_put_other (fun e => hx (by cases e; rfl))]; simp [hx, (h2 x).1]
    · rw [atKey_put_other (fun e => hx (by cases e; rfl))]; simp [hx, (h2 x).2]
end Go.Proofs.Ytfaikkhnlioajaa.Br1
end
section
namespace Go.Proofs.Ytfaikkhnlioajaa.Br2
open Go.RowKit Go.Proofs.YtfaikkhnlioajaaW.PrintWords Go.Proofs.YtfaikkhnlioajaaW.PrintLast Go.Proofs.YtfaikkhnlioajaaW.PrintMore 
attribute [local go_sem] max2_int min2_int max_two min_two max_three min_three max_four min_four
set_option linter.unusedVariables false
set_option linter.unusedSimpArgs false
open Go.Proofs.Ytfaikkhnlioajaa.QBase Go.Proofs.Ytfaikkhnlioajaa.Sch Go.Proofs.Ytfaikkhnlioajaa.Plc Go.Proofs.Ytfaikkhnlioajaa.Gd1 Go.Proofs.Ytfaikkhnlioajaa.Gd2 Go.Proofs.Ytfaikkhnlioajaa.Gd3 Go.Proofs.Ytfaikkhnlioajaa.Gd4 Go.Proofs.Ytfaikkhnlioajaa.BrP Go.Proofs.Ytfaikkhnlioajaa.Br1 Go.Maps
attribute [local go_sem] cellS1 frozenS1 cellS2 frozenS2 cellS3 frozenS3 cellS4 frozenS4 cellS5 frozenS5 cellS6 frozenS6

/-- A table in memory. -/
def IsT (z w : World) (g bm : Nat) (n f s dl ks ee wd rh sl cp i : Int) : Prop := w.heap[g]? = some (.cells #[.int .i64 n, .int .i64 f, .int .i64 s, .int .i64 dl, .int .i64 ks, .int .i64 ee, .int .i64 wd, .int .i64 rh, .int .i64 sl, .int .i64 cp, .int .i64 i, .map (some bm)] 102 (0, 0)) ∧ z.heap.size ≤ g
theorem IsT.below {z w w' : World} {g bm : Nat} {n f s dl ks ee wd rh sl cp i : Int} (h : IsT z w g bm n f s dl ks ee wd rh sl cp i) (hb : Below w.heap.size w w') : IsT z w' g bm n f s dl ks ee wd rh sl cp i := ⟨blk_below h.1 hb, h.2⟩
theorem IsT.alloc {z w : World} {g bm : Nat} {n f s dl ks ee wd rh sl cp i : Int} (h : IsT z w g bm n f s dl ks ee wd rh sl cp i) (o : Obj) : IsT z (w.alloc o) g bm n f s dl ks ee wd rh sl cp i := ⟨blk_alloc h.1 o, h.2⟩
theorem IsT.drewN {z w : World} {g bm : Nat} {n f s dl ks ee wd rh sl cp i : Int} (h : IsT z w g bm n f s dl ks ee wd rh sl cp i) (m : Nat) : IsT z (w.drewN m) g bm n f s dl ks ee wd rh sl cp i := h
theorem IsT.drew {z w : World} {g bm : Nat} {n f s dl ks ee wd rh sl cp i : Int} (h : IsT z w g bm n f s dl ks ee wd rh sl cp i) : IsT z w.drew g bm n f s dl ks ee wd rh sl cp i := h
theorem KMap.below {w w' : World} {bm n : Nat} {M : Int → Option (Int × Int × Int)} (h : KMap w bm n M) (hb : Below w.heap.size w w') : KMap w' bm n M := h.kept (row := none) ⟨hb.os, hb.tape, hb.output, hb.size, fun i hi _ => hb.block i hi⟩ (by simp)
theorem zero3 (w : World) : (zeroValue 105).run Try.prog w = .ok (val3 (0, 0, 0)) w := by kernel_rfl
theorem KMap.look {w : World} {bm n : Nat} {M : Int → Option (Int × Int × Int)} (h : KMap w bm n M) (r : Int) (hr : (Lit.int .i64 r).wf = true) : (Instr.lookup 100 (.map (some bm)) (.int .i64 r) true).run Try.prog w = .ok (.tuple #[val3 ((M r).getD (0, 0, 0)), .bool (M r).isSome]) w := by
  obtain ⟨D, h1, h2⟩ := h
  obtain ⟨v, ps, hrun, hv⟩ := h1.look_ok law3 Try.underlying100 (zero3 w) (RK_val (0, 0, 0)) (keyOf_int_mk Try.underlying3 hr)
  rw [(h2 r).2] at hv
  rw [hrun, (h2 r).1, RK_inv hv]
set_option maxRecDepth 100000 in
set_option maxHeartbeats 4000000 in
theorem none_ok (g bm : Nat) (n f s dl ks ee wd rh sl cp i : Int) (z w : World) (hI : IsT z w g bm n f s dl ks ee wd rh sl cp i) : Calls Try.prog 53 #[.pointer (some ⟨g, 0, none⟩)] w fun en w' => en = .returned (.bool false) ∧ w' = w := by
  have c11 : w.cell? ⟨g, 11, none⟩ = some (.map (some bm)) := (blk_cell hI.1 11).trans rfl
  have hm := fun w => run_eql_map_nil (P := Try.prog) w 100 3 105 (some bm) Try.underlying100
  clear hI
  go_enter Try.func53, Try.ntmps53
  go_wp2
  go_ret
  exact ⟨rfl, rfl⟩
def mayF (n i r t : Int) : Bool := decide (0 ≤ r ∧ r < n ∧ ¬ r = i ∧ 0 ≤ t ∧ t ≤ 1099511627776)
theorem may_yes (g bm : Nat) (n f s dl ks ee wd rh sl cp i : Int) (r t : Int) (z w : World) (hI : IsT z w g bm n f s dl ks ee wd rh sl cp i) (h0 : 0 ≤ r) (h1 : r < n) (h2 : ¬ r = i) (h3 : 0 ≤ t) (h4 : t ≤ 1099511627776) : Calls Try.prog 54 #[.pointer (some ⟨g, 0, none⟩), .int .i64 r, .int .i64 t] w fun en w' => en = .returned (.bool true) ∧ w' = w := by
  have c0 : w.cell? ⟨g, 0, none⟩ = some (.int .i64 n) := (blk_cell hI.1 0).trans rfl
  have c10 : w.cell? ⟨g, 10, none⟩ = some (.int .i64 i) := (blk_cell hI.1 10).trans rfl
  clear hI
  have h2b : (r != i) = true := bne_iff_ne.2 h2
  go_enter Try.func54, Try.ntmps54
  go_wp2
  go_ret
  exact ⟨rfl, rfl⟩
theorem may_no0 (g bm : Nat) (n f s dl ks ee wd rh sl cp i : Int) (r t : Int) (z w : World) (hI : IsT z w g bm n f s dl ks ee wd rh sl cp i)  (h : r < 0) : Calls Try.prog 54 #[.pointer (some ⟨g, 0, none⟩), .int .i64 r, .int .i64 t] w fun en w' => en = .returned (.bool false) ∧ w' = w := by
  have c0 : w.cell? ⟨g, 0, none⟩ = some (.int .i64 n) := (blk_cell hI.1 0).trans rfl
  have c10 : w.cell? ⟨g, 10, none⟩ = some (.int .i64 i) := (blk_cell hI.1 10).trans rfl
  clear hI
  go_enter Try.func54, Try.ntmps54
  go_wp2
  go_ret
  exact ⟨rfl, rfl⟩
theorem may_no1 (g bm : Nat) (n f s dl ks ee wd rh sl cp i : Int) (r t : Int) (z w : World) (hI : IsT z w g bm n f s dl ks ee wd rh sl cp i) (h0 : 0 ≤ r) (h : ¬ r < n) : Calls Try.prog 54 #[.pointer (some ⟨g, 0, none⟩), .int .i64 r, .int .i64 t] w fun en w' => en = .returned (.bool false) ∧ w' = w := by
  have c0 : w.cell? ⟨g, 0, none⟩ = some (.int .i64 n) := (blk_cell hI.1 0).trans rfl
  have c10 : w.cell? ⟨g, 10, none⟩ = some (.int .i64 i) := (blk_cell hI.1 10).trans rfl
  clear hI
  go_enter Try.func54, Try.ntmps54
  go_wp2
  go_ret
  exact ⟨rfl, rfl⟩
theorem may_no2 (g bm : Nat) (n f s dl ks ee wd rh sl cp i : Int) (r t : Int) (z w : World) (hI : IsT z w g bm n f s dl ks ee wd rh sl cp i) (h0 : 0 ≤ r) (h1 : r < n) (h : r = i) : Calls Try.prog 54 #[.pointer (some ⟨g, 0, none⟩), .int .i64 r, .int .i64 t] w fun en w' => en = .returned (.bool false) ∧ w' = w := by
  have c0 : w.cell? ⟨g, 0, none⟩ = some (.int .i64 n) := (blk_cell hI.1 0).trans rfl
  have c10 : w.cell? ⟨g, 10, none⟩ = some (.int .i64 i) := (blk_cell hI.1 10).trans rfl
  clear hI
  subst h
  go_enter Try.func54, Try.ntmps54
  go_wp2
  go_ret
  exact ⟨rfl, rfl⟩
theorem may_no3 (g bm : Nat) (n f s dl ks ee wd rh sl cp i : Int) (r t : Int) (z w : World) (hI : IsT z w g bm n f s dl ks ee wd rh sl cp i) (h0 : 0 ≤ r) (h1 : r < n) (h2 : ¬ r = i) (h : t < 0) : Calls Try.prog 54 #[.pointer (some ⟨g, 0, none⟩), .int .i64 r, .int .i64 t] w fun en w' => en = .returned (.bool false) ∧ w' = w := by
  have c0 : w.cell? ⟨g, 0, none⟩ = some (.int .i64 n) := (blk_cell hI.1 0).trans rfl
  have c10 : w.cell? ⟨g, 10, none⟩ = some (.int .i64 i) := (blk_cell hI.1 10).trans rfl
  clear hI
  have h2b : (r != i) = true := bne_iff_ne.2 h2
  go_enter Try.func54, Try.ntmps54
  go_wp2
  go_ret
  exact ⟨rfl, rfl⟩
theorem may_no4 (g bm : Nat) (n f s dl ks ee wd rh sl cp i : Int) (r t : Int) (z w : World) (hI : IsT z w g bm n f s dl ks ee wd rh sl cp i) (h0 : 0 ≤ r) (h1 : r < n) (h2 : ¬ r = i) (h3 : 0 ≤ t) (h : 1099511627776 < t) : Calls Try.prog 54 #[.pointer (some ⟨g, 0, none⟩), .int .i64 r, .int .i64 t] w fun en w' => en = .returned (.bool false) ∧ w' = w := by
  have c0 : w.cell? ⟨g, 0, none⟩ = some (.int .i64 n) := (blk_cell hI.1 0).trans rfl
  have c10 : w.cell? ⟨g, 10, none⟩ = some (.int .i64 i) := (blk_cell hI.1 10).trans rfl
  clear hI
  have h2b : (r != i) = true := bne_iff_ne.2 h2
  have h4b : decide (t ≤ 1099511627776) = false := decide_eq_false (by omega)
  go_enter Try.func54, Try.ntmps54
  go_wp2
  go_ret
  exact ⟨rfl, rfl⟩
theorem may_no (g bm : Nat) (n f s dl ks ee wd rh sl cp i : Int) (r t : Int) (z w : World) (hI : IsT z w g bm n f s dl ks ee wd rh sl cp i) (h : mayF n i r t = false) : Calls Try.prog 54 #[.pointer (some ⟨g, 0, none⟩), .int .i64 r, .int .i64 t] w fun en w' => en = .returned (.bool false) ∧ w' = w := by
  have h' := of_decide_eq_false h
  by_cases h0 : 0 ≤ r
  · by_cases h1 : r < n
    · by_cases h2 : r = i
      · exact may_no2 g bm n f s dl ks ee wd rh sl cp i r t z w hI h0 h1 h2
      · by_cases h3 : 0 ≤ t
        · exact may_no4 g bm n f s dl ks ee wd rh sl cp i r t z w hI h0 h1 h2 h3 (by omega)
        · exact may_no3 g bm n f s dl ks ee wd rh sl cp i r t z w hI h0 h1 h2 (by omega)
    · exact may_no1 g bm n f s dl ks ee wd rh sl cp i r t z w hI h0 h1
  · exact may_no0 g bm n f s dl ks ee wd rh sl cp i r t z w hI (by omega)
theorem may_any (g bm : Nat) (n f s dl ks ee wd rh sl cp i : Int) (r t : Int) (z w : World) (hI : IsT z w g bm n f s dl ks ee wd rh sl cp i) (b : Bool) (h : mayF n i r t = b) : Calls Try.prog 54 #[.pointer (some ⟨g, 0, none⟩), .int .i64 r, .int .i64 t] w fun en w' => en = .returned (.bool b) ∧ w' = w := by
  cases b with
  | false => exact may_no g bm n f s dl ks ee wd rh sl cp i r t z w hI h
  | true =>
    have h' := of_decide_eq_true h
    exact may_yes g bm n f s dl ks ee wd rh sl cp i r t z w hI h'.1 h'.2.1 h'.2.2.1 h'.2.2.2.1 h'.2.2.2.2
end Go.Proofs.Ytfaikkhnlioajaa.Br2
end
