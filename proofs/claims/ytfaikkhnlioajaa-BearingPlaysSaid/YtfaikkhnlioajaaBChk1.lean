/- Go functions told as Lean functions, and their walks. -/
import Derived.Test.YtfaikkhnlioajaaQBasex0
import Derived.Test.YtfaikkhnlioajaaQBasex1
import Derived.Test.YtfaikkhnlioajaaQBasex2
import Derived.Test.YtfaikkhnlioajaaBRef16From
import Derived.Test.YtfaikkhnlioajaaBChkA
namespace Go.Proofs.Ytfaikkhnlioajaa.QBase
open Go.RowKit Go.Proofs.YtfaikkhnlioajaaW.PrintWords Go.Proofs.YtfaikkhnlioajaaW.PrintLast Go.Proofs.YtfaikkhnlioajaaW.PrintMore
attribute [local go_sem] max2_int min2_int max_two min_two max_three min_three max_four min_four   -- for this text's walks alone
set_option linter.unusedVariables false
set_option linter.unusedSimpArgs false

attribute [local go_sem high] eqA23
set_option maxHeartbeats 4000000 in
set_option maxRecDepth 100000 in
theorem check_no20 (n f s dl ks e wd rh sl cp : Int) (w : World) (g0 : 1 ≤ n) (g1 : n ≤ 8) (g2 : 0 ≤ f) (g3 : f ≤ 8) (g4 : 3 * f < n) (g5 : 300 ≤ s) (g6 : s ≤ 10000) (g7 : 1 ≤ dl) (g8 : dl ≤ 4) (g9 : dl + 4 ≤ ks) (g10 : ks ≤ 256) (g11 : 1 ≤ e) (g12 : e ≤ 4 * s) (g13 : 100 ≤ wd) (g14 : wd ≤ 4 * s) (g15 : 0 ≤ rh) (g16 : rh ≤ 5) (g17 : 0 ≤ sl) (g18 : sl ≤ 5) (g19 : 1 ≤ cp) (hb : ¬ (cp ≤ 64)) : Calls Try.prog 51 #[.agg #[.int .i64 n, .int .i64 f, .int .i64 s, .int .i64 dl, .int .i64 ks, .int .i64 e, .int .i64 wd, .int .i64 rh, .int .i64 sl, .int .i64 cp]] w fun e w' => e = .returned (.int .i64 1) ∧ Below w.heap.size w w' := by
  have hc := Int.not_le.1 hb
  have hcp : decide (cp ≤ 64) = false := decide_eq_false hb
  clear hb
  go_enter Try.func51, Try.ntmps51
  go_wp2
  all_goals first | (rename_i hx; rw [hcp] at hx; exact absurd hx (by decide)) | (go_ret; exact ⟨rfl, by repeat (first | exact Below.refl _ _ | refine Below.drew ?_ | refine Below.alloc ?_ (by simp; try omega) _)⟩)
set_option maxHeartbeats 4000000 in
set_option maxRecDepth 100000 in
theorem check_no11 (n f s dl ks e wd rh sl cp : Int) (w : World) (g0 : 1 ≤ n) (g1 : n ≤ 8) (g2 : 0 ≤ f) (g3 : f ≤ 8) (g4 : 3 * f < n) (g5 : 300 ≤ s) (g6 : s ≤ 10000) (g7 : 1 ≤ dl) (g8 : dl ≤ 4) (g9 : dl + 4 ≤ ks) (g10 : ks ≤ 256) (hb : ¬ (1 ≤ e)) : Calls Try.prog 51 #[.agg #[.int .i64 n, .int .i64 f, .int .i64 s, .int .i64 dl, .int .i64 ks, .int .i64 e, .int .i64 wd, .int .i64 rh, .int .i64 sl, .int .i64 cp]] w fun e w' => e = .returned (.int .i64 1) ∧ Below w.heap.size w w' := by
  have hc := Int.not_le.1 hb
  clear hb
  go_enter Try.func51, Try.ntmps51
  go_wp2
  go_ret
  exact ⟨rfl, by repeat (first | exact Below.refl _ _ | refine Below.drew ?_ | refine Below.alloc ?_ (by simp; try omega) _)⟩
set_option maxHeartbeats 4000000 in
set_option maxRecDepth 100000 in
theorem check_no8 (n f s dl ks e wd rh sl cp : Int) (w : World) (g0 : 1 ≤ n) (g1 : n ≤ 8) (g2 : 0 ≤ f) (g3 : f ≤ 8) (g4 : 3 * f < n) (g5 : 300 ≤ s) (g6 : s ≤ 10000) (g7 : 1 ≤ dl) (hb : ¬ (dl ≤ 4)) : Calls Try.prog 51 #[.agg #[.int .i64 n, .int .i64 f, .int .i64 s, .int .i64 dl, .int .i64 ks, .int .i64 e, .int .i64 wd, .int .i64 rh, .int .i64 sl, .int .i64 cp]] w fun e w' => e = .returned (.int .i64 1) ∧ Below w.heap.size w w' := by
  have hc := Int.not_le.1 hb
  clear hb
  go_enter Try.func51, Try.ntmps51
  go_wp2
  go_ret
  exact ⟨rfl, by repeat (first | exact Below.refl _ _ | refine Below.drew ?_ | refine Below.alloc ?_ (by simp; try omega) _)⟩
end Go.Proofs.Ytfaikkhnlioajaa.QBase
