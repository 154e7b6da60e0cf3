/- How two ends compare. -/
import Derived.Test.YtfaikkhnlioajaaProg
import Derived.Below
import Derived.Deep.Draws
import Derived.Deep.AppendLies
import Derived.Maps.AppendAt
import Derived.OwnWalk
import Derived.Laws.BytesArg
import Derived.Laws.MakeOwn
import Derived.Laws.OwnMore
import Derived.Deep.OwnRows
import Derived.Tactics
import Derived.Lib.ConvBytes
import Derived.Laws.Slices
import Derived.WalkKit
import Derived.KernelRfl
import Derived.RowKit3
import Derived.Deep.LoopGhost
import Derived.Deep.QuietTactic
import Derived.BigQuiet
import Derived.WideLaws
import Derived.Deep.DeepCutAuto
import Derived.Deep.CutBlock
import Derived.Deep.RegionHeld3
import Derived.Laws.Rows
import Derived.Lib.AppendStr
import Derived.ArgAppend
import Derived.Laws.IdiomCopy
import Derived.OrdersHeld
import Derived.Laws.BitsLemmas
import Derived.RowKit
import Derived.RegionTactic
import Derived.ChangeAlike
import Derived.Outline
import Derived.LoopTactic
import Derived.WalkSpells
import Derived.WalkLawsBesides
import Derived.Lib.Hide
import Derived.StillTailTactics
import Derived.Deep.RegionWith
import Derived.Deep.RegionLaw
import Derived.Deep.DeepFit
import Derived.Deep.DeepMust
import Derived.Test.YtfaikkhnlioajaaWWords
import Derived.Test.YtfaikkhnlioajaaWLast
import Derived.Test.YtfaikkhnlioajaaWTab
import Derived.Test.YtfaikkhnlioajaaWFour
import Derived.Test.YtfaikkhnlioajaaWQPut
import Derived.Test.YtfaikkhnlioajaaWApart
import Derived.Test.YtfaikkhnlioajaaWArr
import Derived.Test.YtfaikkhnlioajaaWZeros
import Derived.Test.YtfaikkhnlioajaaWFoot
import Derived.Test.YtfaikkhnlioajaaWKept
import Derived.Test.YtfaikkhnlioajaaWShare
import Derived.Test.YtfaikkhnlioajaaWN
import Derived.Test.YtfaikkhnlioajaaWFootNe
import Derived.Test.YtfaikkhnlioajaaWAt
import Derived.Test.YtfaikkhnlioajaaWEqStruct
import Derived.Test.YtfaikkhnlioajaaWRepsOne
import Derived.Test.YtfaikkhnlioajaaWInv
import Derived.Test.YtfaikkhnlioajaaWInvWords
import Derived.Test.YtfaikkhnlioajaaWGuard
import Derived.Test.YtfaikkhnlioajaaWNEv
import Derived.Test.YtfaikkhnlioajaaWMore
import Derived.Shelf.SlSortCmp.NoneTotal
import Derived.Shelf.Lay
import Derived.Shelf.SlGeneric
import Derived.Ground.SlsfProg
namespace Go.Proofs.Ytfaikkhnlioajaa.Iv1
open Go.RowKit Go.Proofs.YtfaikkhnlioajaaW.PrintWords Go.Proofs.YtfaikkhnlioajaaW.PrintLast Go.Proofs.YtfaikkhnlioajaaW.PrintMore 
attribute [local go_sem] max2_int min2_int max_two min_two max_three min_three max_four min_four
set_option linter.unusedVariables false
set_option linter.unusedSimpArgs false
open Go.Shelf Go.RowKit Go.Lib Go.Sort
shelf_lay_g SlLaysF0.n6 Slsf 6 at Try 78 as Try.sortEd
theorem eqA122 (d : Nat) (w : World) (x0 y0 x1 y1 : Int) :
    (Op.equalIn (d + 2) 122 (.agg #[.int .i64 x0, .int .i64 x1]) (.agg #[.int .i64 y0, .int .i64 y1])).run Try.prog w = .ok (x0 == y0 && (x1 == y1)) w := by
  refine eqA_of Try.underlying122 (by kernel_rfl) ?_
  refine eqf_cons (by rfl) (by go_simp; rfl) (by go_simp; rfl) (by go_simp) ?_
  exact eqf_last (by rfl) (by go_simp; rfl) (by go_simp; rfl) (by go_simp)
attribute [local go_sem high] eqA122
set_option maxHeartbeats 4000000 in
theorem closure_eq (a b c d : Int) (h : a = c) (h2 : b = d) (W : World) : Calls Try.prog 79 #[.agg #[.int .i64 a, .int .i64 b], .agg #[.int .i64 c, .int .i64 d]] W fun e w' => e = .returned (.int .i64 (0)) ∧ ∃ q os', w' = grow (W.drewN q) os' := by
  subst h h2
  go_enter Try.func79, Try.ntmps79
  go_wp2
  go_ret
  exact ⟨rfl, 0, _, by rw [alloc_eq_grow, alloc_eq_grow, grow_grow]; rfl⟩
set_option maxHeartbeats 4000000 in
theorem closure_lt (a b c d : Int) (h : a < c) (W : World) : Calls Try.prog 79 #[.agg #[.int .i64 a, .int .i64 b], .agg #[.int .i64 c, .int .i64 d]] W fun e w' => e = .returned (.int .i64 (-1)) ∧ ∃ q os', w' = grow (W.drewN q) os' := by
  have h1 : (a == c) = false := by simp; omega
  have h3 : decide (a < c) = true := decide_eq_true h
  go_enter Try.func79, Try.ntmps79
  go_wp2
  go_ret
  exact ⟨rfl, 0, _, by rw [alloc_eq_grow, alloc_eq_grow, grow_grow]; rfl⟩
set_option maxHeartbeats 4000000 in
theorem closure_more (a b c d : Int) (h : a = c) (h2 : b > d) (W : World) : Calls Try.prog 79 #[.agg #[.int .i64 a, .int .i64 b], .agg #[.int .i64 c, .int .i64 d]] W fun e w' => e = .returned (.int .i64 (-1)) ∧ ∃ q os', w' = grow (W.drewN q) os' := by
  subst h
  have h1 : (b == d) = false := by simp; omega
  have h3 : decide (a < a) = false := decide_eq_false (by omega)
  have h4 : decide (b > d) = true := decide_eq_true h2
  go_enter Try.func79, Try.ntmps79
  go_wp2
  go_ret
  exact ⟨rfl, 0, _, by rw [alloc_eq_grow, alloc_eq_grow, grow_grow]; rfl⟩
set_option maxHeartbeats 4000000 in
theorem closure_less (a b c d : Int) (h : a = c) (h2 : b < d) (W : World) : Calls Try.prog 79 #[.agg #[.int .i64 a, .int .i64 b], .agg #[.int .i64 c, .int .i64 d]] W fun e w' => e = .returned (.int .i64 (1)) ∧ ∃ q os', w' = grow (W.drewN q) os' := by
  subst h
  have h1 : (b == d) = false := by simp; omega
  have h3 : decide (a < a) = false := decide_eq_false (by omega)
  have h4 : decide (b > d) = false := decide_eq_false (by omega)
  go_enter Try.func79, Try.ntmps79
  go_wp2
  go_ret
  exact ⟨rfl, 0, _, by rw [alloc_eq_grow, alloc_eq_grow, grow_grow]; rfl⟩
set_option maxHeartbeats 4000000 in
theorem closure_gt (a b c d : Int) (h : c < a) (W : World) : Calls Try.prog 79 #[.agg #[.int .i64 a, .int .i64 b], .agg #[.int .i64 c, .int .i64 d]] W fun e w' => e = .returned (.int .i64 (1)) ∧ ∃ q os', w' = grow (W.drewN q) os' := by
  have h1 : (a == c) = false := by simp; omega
  have h3 : decide (a < c) = false := decide_eq_false (by omega)
  have h5 : decide (a = c) = false := decide_eq_false (by omega)
  go_enter Try.func79, Try.ntmps79
  go_wp2
  go_ret
  exact ⟨rfl, 0, _, by rw [alloc_eq_grow, alloc_eq_grow, grow_grow]; rfl⟩
/-- How two ends compare. -/
def cfE (x y : Int × Int) : Int := if x = y then 0 else if x.1 < y.1 ∨ (x.1 = y.1 ∧ x.2 > y.2) then -1 else 1
theorem closure_any (x y : Int × Int) (W : World) : Calls Try.prog 79 #[.agg #[.int .i64 x.1, .int .i64 x.2], .agg #[.int .i64 y.1, .int .i64 y.2]] W fun e w' => e = .returned (.int .i64 (cfE x y)) ∧ ∃ q os', w' = grow (W.drewN q) os' := by
  obtain ⟨a, b⟩ := x
  obtain ⟨c, d⟩ := y
  rcases Int.lt_trichotomy a c with h | h | h
  · have e : cfE (a, b) (c, d) = -1 := by unfold cfE; rw [if_neg (by simp; omega), if_pos (by simp; omega)]
    rw [e]; exact closure_lt a b c d h W
  · rcases Int.lt_trichotomy b d with h2 | h2 | h2
    · have e : cfE (a, b) (c, d) = 1 := by unfold cfE; rw [if_neg (by simp; omega), if_neg (by simp; omega)]
      rw [e]; exact closure_less a b c d h h2 W
    · have e : cfE (a, b) (c, d) = 0 := by unfold cfE; rw [if_pos (by rw [h, h2])]
      rw [e]; exact closure_eq a b c d h h2 W
    · have e : cfE (a, b) (c, d) = -1 := by unfold cfE; rw [if_neg (by simp; omega), if_pos (by simp; omega)]
      rw [e]; exact closure_more a b c d h h2 W
  · have e : cfE (a, b) (c, d) = 1 := by unfold cfE; rw [if_neg (by simp; omega), if_neg (by simp; omega)]
    rw [e]; exact closure_gt a b c d h W
theorem ltE (x y : Int × Int) : ltOf cfE x y = decide (x.1 < y.1 ∨ (x.1 = y.1 ∧ x.2 > y.2)) := by
  unfold ltOf cfE
  by_cases h : x = y
  · subst h; rw [if_pos rfl]; simp
  · rw [if_neg h]
    by_cases h2 : x.1 < y.1 ∨ (x.1 = y.1 ∧ x.2 > y.2)
    · rw [if_pos h2]; simp [h2]
    · rw [if_neg h2]; simp [h2]
theorem swoE : SWO (ltOf cfE) where
  irrefl x := by rw [ltE]; simp
  trans x y z h1 h2 := by rw [ltE] at *; simp at *; omega
  ntrans x y z h1 h2 := by rw [ltE] at *; simp at *; omega
theorem totE (x y : Int × Int) (h1 : ltOf cfE x y = false) (h2 : ltOf cfE y x = false) : x = y := by
  rw [ltE] at h1 h2
  simp at h1 h2
  exact Prod.ext (by omega) (by omega)
/-- An end's two cells. -/
def encE (x : Int × Int) : List Value := [.int .i64 x.1, .int .i64 x.2]
end Go.Proofs.Ytfaikkhnlioajaa.Iv1
