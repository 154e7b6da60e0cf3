/- Go functions told as Lean functions, and their walks. -/
import Derived.Test.YtfaikkhnlioajaaQBasex0
import Derived.Test.YtfaikkhnlioajaaQBasex1
import Derived.Test.YtfaikkhnlioajaaQBasex2
import Derived.Test.YtfaikkhnlioajaaBRef16From
import Derived.Test.YtfaikkhnlioajaaBChkA
import Derived.Test.YtfaikkhnlioajaaBChk0
import Derived.Test.YtfaikkhnlioajaaBChk1
import Derived.Test.YtfaikkhnlioajaaBChk2
import Derived.Test.YtfaikkhnlioajaaBChk3
import Derived.Test.YtfaikkhnlioajaaBChk4
import Derived.Test.YtfaikkhnlioajaaBChk5
namespace Go.Proofs.Ytfaikkhnlioajaa.QBase
open Go.RowKit Go.Proofs.YtfaikkhnlioajaaW.PrintWords Go.Proofs.YtfaikkhnlioajaaW.PrintLast Go.Proofs.YtfaikkhnlioajaaW.PrintMore
attribute [local go_sem] max2_int min2_int max_two min_two max_three min_three max_four min_four   -- for this text's walks alone
set_option linter.unusedVariables false
set_option linter.unusedSimpArgs false

attribute [local go_sem high] eqA23
theorem check_not (n f s dl ks e wd rh sl cp : Int) (w : World) (h : ¬ Ok n f s dl ks e wd rh sl cp) : Calls Try.prog 51 #[.agg #[.int .i64 n, .int .i64 f, .int .i64 s, .int .i64 dl, .int .i64 ks, .int .i64 e, .int .i64 wd, .int .i64 rh, .int .i64 sl, .int .i64 cp]] w fun e w' => e = .returned (.int .i64 1) ∧ Below w.heap.size w w' := by
  by_cases g0 : 1 ≤ n
  case neg => exact check_no0 n f s dl ks e wd rh sl cp w  g0
  by_cases g1 : n ≤ 8
  case neg => exact check_no1 n f s dl ks e wd rh sl cp w g0 g1
  by_cases g2 : 0 ≤ f
  case neg => exact check_no2 n f s dl ks e wd rh sl cp w g0 g1 g2
  by_cases g3 : f ≤ 8
  case neg => exact check_no3 n f s dl ks e wd rh sl cp w g0 g1 g2 g3
  by_cases g4 : 3 * f < n
  case neg => exact check_no4 n f s dl ks e wd rh sl cp w g0 g1 g2 g3 g4
  by_cases g5 : 300 ≤ s
  case neg => exact check_no5 n f s dl ks e wd rh sl cp w g0 g1 g2 g3 g4 g5
  by_cases g6 : s ≤ 10000
  case neg => exact check_no6 n f s dl ks e wd rh sl cp w g0 g1 g2 g3 g4 g5 g6
  by_cases g7 : 1 ≤ dl
  case neg => exact check_no7 n f s dl ks e wd rh sl cp w g0 g1 g2 g3 g4 g5 g6 g7
  by_cases g8 : dl ≤ 4
  case neg => exact check_no8 n f s dl ks e wd rh sl cp w g0 g1 g2 g3 g4 g5 g6 g7 g8
  by_cases g9 : dl + 4 ≤ ks
  case neg => exact check_no9 n f s dl ks e wd rh sl cp w g0 g1 g2 g3 g4 g5 g6 g7 g8 g9
  by_cases g10 : ks ≤ 256
  case neg => exact check_no10 n f s dl ks e wd rh sl cp w g0 g1 g2 g3 g4 g5 g6 g7 g8 g9 g10
  by_cases g11 : 1 ≤ e
  case neg => exact check_no11 n f s dl ks e wd rh sl cp w g0 g1 g2 g3 g4 g5 g6 g7 g8 g9 g10 g11
  by_cases g12 : e ≤ 4 * s
  case neg => exact check_no12 n f s dl ks e wd rh sl cp w g0 g1 g2 g3 g4 g5 g6 g7 g8 g9 g10 g11 g12
  by_cases g13 : 100 ≤ wd
  case neg => exact check_no13 n f s dl ks e wd rh sl cp w g0 g1 g2 g3 g4 g5 g6 g7 g8 g9 g10 g11 g12 g13
  by_cases g14 : wd ≤ 4 * s
  case neg => exact check_no14 n f s dl ks e wd rh sl cp w g0 g1 g2 g3 g4 g5 g6 g7 g8 g9 g10 g11 g12 g13 g14
  by_cases g15 : 0 ≤ rh
  case neg => exact check_no15 n f s dl ks e wd rh sl cp w g0 g1 g2 g3 g4 g5 g6 g7 g8 g9 g10 g11 g12 g13 g14 g15
  by_cases g16 : rh ≤ 5
  case neg => exact check_no16 n f s dl ks e wd rh sl cp w g0 g1 g2 g3 g4 g5 g6 g7 g8 g9 g10 g11 g12 g13 g14 g15 g16
  by_cases g17 : 0 ≤ sl
  case neg => exact check_no17 n f s dl ks e wd rh sl cp w g0 g1 g2 g3 g4 g5 g6 g7 g8 g9 g10 g11 g12 g13 g14 g15 g16 g17
  by_cases g18 : sl ≤ 5
  case neg => exact check_no18 n f s dl ks e wd rh sl cp w g0 g1 g2 g3 g4 g5 g6 g7 g8 g9 g10 g11 g12 g13 g14 g15 g16 g17 g18
  by_cases g19 : 1 ≤ cp
  case neg => exact check_no19 n f s dl ks e wd rh sl cp w g0 g1 g2 g3 g4 g5 g6 g7 g8 g9 g10 g11 g12 g13 g14 g15 g16 g17 g18 g19
  by_cases g20 : cp ≤ 64
  case neg => exact check_no20 n f s dl ks e wd rh sl cp w g0 g1 g2 g3 g4 g5 g6 g7 g8 g9 g10 g11 g12 g13 g14 g15 g16 g17 g18 g19 g20
  exact absurd ⟨g0, g1, g2, g3, g4, g5, g6, g7, g8, g9, g10, g11, g12, g13, g14, g15, g16, g17, g18, g19, g20⟩ h
theorem carillonref16_Check.calls (a0_0 : Int) (a0_1 : Int) (a0_2 : Int) (a0_3 : Int) (a0_4 : Int) (a0_5 : Int) (a0_6 : Int) (a0_7 : Int) (a0_8 : Int) (a0_9 : Int) (r : Int) (w : World) (h : carillonref16_Check.f a0_0 a0_1 a0_2 a0_3 a0_4 a0_5 a0_6 a0_7 a0_8 a0_9 = some r) :
    Calls Try.prog 51 #[.agg #[.int .i64 a0_0, .int .i64 a0_1, .int .i64 a0_2, .int .i64 a0_3, .int .i64 a0_4, .int .i64 a0_5, .int .i64 a0_6, .int .i64 a0_7, .int .i64 a0_8, .int .i64 a0_9]] w fun e w' => e = .returned (.int .i64 r) ∧ Below w.heap.size w w' := by
  by_cases ho : Ok a0_0 a0_1 a0_2 a0_3 a0_4 a0_5 a0_6 a0_7 a0_8 a0_9
  · rw [rcheck_in a0_0 a0_1 a0_2 a0_3 a0_4 a0_5 a0_6 a0_7 a0_8 a0_9 ho] at h
    obtain rfl := Option.some.inj h
    exact check_yes a0_0 a0_1 a0_2 a0_3 a0_4 a0_5 a0_6 a0_7 a0_8 a0_9 w ho
  · rw [rcheck_out a0_0 a0_1 a0_2 a0_3 a0_4 a0_5 a0_6 a0_7 a0_8 a0_9 ho] at h
    obtain rfl := Option.some.inj h
    exact check_not a0_0 a0_1 a0_2 a0_3 a0_4 a0_5 a0_6 a0_7 a0_8 a0_9 w ho
end Go.Proofs.Ytfaikkhnlioajaa.QBase
