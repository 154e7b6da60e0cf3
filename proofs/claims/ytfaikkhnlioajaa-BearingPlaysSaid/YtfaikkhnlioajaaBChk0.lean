/- Go functions told as Lean functions, and their walks. -/
import Derived.Test.YtfaikkhnlioajaaQBasex0
import Derived.Test.YtfaikkhnlioajaaQBasex1
import Derived.Test.YtfaikkhnlioajaaQBasex2
import Derived.Test.YtfaikkhnlioajaaBRef16From
import Derived.Test.YtfaikkhnlioajaaBChkA
namespace Go.Proofs.Ytfaikkhnlioajaa.QBase
open Go.RowKit Go.Proofs.YtfaikkhnlioajaaW.PrintWords Go.Proofs.YtfaikkhnlioajaaW.PrintLast Go.Proofs.YtfaikkhnlioajaaW.PrintMore
attribute [local go_sem] max2_int min2_int max_two min_two max_three min_three max_four min_four   -- for this text's walks alone
set_option linter.unusedVariables false
set_option linter.unusedSimpArgs false

attribute [local go_sem high] eqA23
set_option maxHeartbeats 4000000 in
set_option maxRecDepth 100000 in
theorem check_yes (n f s dl ks e wd rh sl cp : Int) (w : World) (h : Ok n f s dl ks e wd rh sl cp) : Calls Try.prog 51 #[.agg #[.int .i64 n, .int .i64 f, .int .i64 s, .int .i64 dl, .int .i64 ks, .int .i64 e, .int .i64 wd, .int .i64 rh, .int .i64 sl, .int .i64 cp]] w fun e w' => e = .returned (.int .i64 0) ∧ Below w.heap.size w w' := by
  obtain ⟨g0, g1, g2, g3, g4, g5, g6, g7, g8, g9, g10, g11, g12, g13, g14, g15, g16, g17, g18, g19, g20⟩ := h
  go_enter Try.func51, Try.ntmps51
  go_wp2
  go_ret
  exact ⟨rfl, by repeat (first | exact Below.refl _ _ | refine Below.drew ?_ | refine Below.alloc ?_ (by simp; try omega) _)⟩
set_option maxHeartbeats 4000000 in
set_option maxRecDepth 100000 in
theorem check_no10 (n f s dl ks e wd rh sl cp : Int) (w : World) (g0 : 1 ≤ n) (g1 : n ≤ 8) (g2 : 0 ≤ f) (g3 : f ≤ 8) (g4 : 3 * f < n) (g5 : 300 ≤ s) (g6 : s ≤ 10000) (g7 : 1 ≤ dl) (g8 : dl ≤ 4) (g9 : dl + 4 ≤ ks) (hb : ¬ (ks ≤ 256)) : Calls Try.prog 51 #[.agg #[.int .i64 n, .int .i64 f, .int .i64 s, .int .i64 dl, .int .i64 ks, .int .i64 e, .int .i64 wd, .int .i64 rh, .int .i64 sl, .int .i64 cp]] w fun e w' => e = .returned (.int .i64 1) ∧ Below w.heap.size w w' := by
  have hc := Int.not_le.1 hb
  clear hb
  go_enter Try.func51, Try.ntmps51
  go_wp2
  go_ret
  exact ⟨rfl, by repeat (first | exact Below.refl _ _ | refine Below.drew ?_ | refine Below.alloc ?_ (by simp; try omega) _)⟩
set_option maxHeartbeats 4000000 in
set_option maxRecDepth 100000 in
theorem check_no9 (n f s dl ks e wd rh sl cp : Int) (w : World) (g0 : 1 ≤ n) (g1 : n ≤ 8) (g2 : 0 ≤ f) (g3 : f ≤ 8) (g4 : 3 * f < n) (g5 : 300 ≤ s) (g6 : s ≤ 10000) (g7 : 1 ≤ dl) (g8 : dl ≤ 4) (hb : ¬ (dl + 4 ≤ ks)) : Calls Try.prog 51 #[.agg #[.int .i64 n, .int .i64 f, .int .i64 s, .int .i64 dl, .int .i64 ks, .int .i64 e, .int .i64 wd, .int .i64 rh, .int .i64 sl, .int .i64 cp]] w fun e w' => e = .returned (.int .i64 1) ∧ Below w.heap.size w w' := by
  have hc := Int.not_le.1 hb
  clear hb
  go_enter Try.func51, Try.ntmps51
  go_wp2
  go_ret
  exact ⟨rfl, by repeat (first | exact Below.refl _ _ | refine Below.drew ?_ | refine Below.alloc ?_ (by simp; try omega) _)⟩
end Go.Proofs.Ytfaikkhnlioajaa.QBase
