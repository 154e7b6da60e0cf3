/- Where most of any intervals meet: the law. -/
import Derived.Test.YtfaikkhnlioajaaProg
import Derived.Below
import Derived.Deep.Draws
import Derived.Deep.AppendLies
import Derived.Maps.AppendAt
import Derived.OwnWalk
import Derived.Laws.BytesArg
import Derived.Laws.MakeOwn
import Derived.Laws.OwnMore
import Derived.Deep.OwnRows
import Derived.Tactics
import Derived.Lib.ConvBytes
import Derived.Laws.Slices
import Derived.WalkKit
import Derived.KernelRfl
import Derived.RowKit3
import Derived.Deep.LoopGhost
import Derived.Deep.QuietTactic
import Derived.BigQuiet
import Derived.WideLaws
import Derived.Deep.DeepCutAuto
import Derived.Deep.CutBlock
import Derived.Deep.RegionHeld3
import Derived.Laws.Rows
import Derived.Lib.AppendStr
import Derived.ArgAppend
import Derived.Laws.IdiomCopy
import Derived.OrdersHeld
import Derived.Laws.BitsLemmas
import Derived.RowKit
import Derived.RegionTactic
import Derived.ChangeAlike
import Derived.Outline
import Derived.LoopTactic
import Derived.WalkSpells
import Derived.WalkLawsBesides
import Derived.Lib.Hide
import Derived.StillTailTactics
import Derived.Deep.RegionWith
import Derived.Deep.RegionLaw
import Derived.Deep.DeepFit
import Derived.Deep.DeepMust
import Derived.Test.YtfaikkhnlioajaaWWords
import Derived.Test.YtfaikkhnlioajaaWLast
import Derived.Test.YtfaikkhnlioajaaWTab
import Derived.Test.YtfaikkhnlioajaaWFour
import Derived.Test.YtfaikkhnlioajaaWQPut
import Derived.Test.YtfaikkhnlioajaaWApart
import Derived.Test.YtfaikkhnlioajaaWArr
import Derived.Test.YtfaikkhnlioajaaWZeros
import Derived.Test.YtfaikkhnlioajaaWFoot
import Derived.Test.YtfaikkhnlioajaaWKept
import Derived.Test.YtfaikkhnlioajaaWShare
import Derived.Test.YtfaikkhnlioajaaWN
import Derived.Test.YtfaikkhnlioajaaWFootNe
import Derived.Test.YtfaikkhnlioajaaWAt
import Derived.Test.YtfaikkhnlioajaaWEqStruct
import Derived.Test.YtfaikkhnlioajaaWRepsOne
import Derived.Test.YtfaikkhnlioajaaWInv
import Derived.Test.YtfaikkhnlioajaaWInvWords
import Derived.Test.YtfaikkhnlioajaaWGuard
import Derived.Test.YtfaikkhnlioajaaWNEv
import Derived.Test.YtfaikkhnlioajaaWMore
import Derived.Test.YtfaikkhnlioajaaIv5
namespace Go.Proofs.Ytfaikkhnlioajaa.Iv6
open Go.RowKit Go.Proofs.YtfaikkhnlioajaaW.PrintWords Go.Proofs.YtfaikkhnlioajaaW.PrintLast Go.Proofs.YtfaikkhnlioajaaW.PrintMore 
attribute [local go_sem] max2_int min2_int max_two min_two max_three min_three max_four min_four
set_option linter.unusedVariables false
set_option linter.unusedSimpArgs false
open Go.Proofs.Ytfaikkhnlioajaa.QBase Go.Proofs.Ytfaikkhnlioajaa.Iv2 Go.Proofs.Ytfaikkhnlioajaa.Iv3 Go.Proofs.Ytfaikkhnlioajaa.Iv4 Go.Proofs.Ytfaikkhnlioajaa.Iv5
attribute [local go_sem] cellS1 frozenS1 cellS2 frozenS2 cellS3 frozenS3
theorem eqA61 (d : Nat) (w : World) (x0 y0 x1 y1 : Int) :
    (Op.equalIn (d + 2) 61 (.agg #[.int .i64 x0, .int .i64 x1]) (.agg #[.int .i64 y0, .int .i64 y1])).run Try.prog w = .ok (x0 == y0 && (x1 == y1)) w := by
  refine eqA_of Try.underlying61 (by kernel_rfl) ?_
  refine eqf_cons (by rfl) (by go_simp; rfl) (by go_simp; rfl) (by go_simp) ?_
  exact eqf_last (by rfl) (by go_simp; rfl) (by go_simp; rfl) (by go_simp)
attribute [local go_sem high] eqA61
set_option maxHeartbeats 4000000 in
theorem awake_ok (W : World) : Calls Try.prog 42 #[] W fun e w' => e = .returned (.bool true) ∧ Below W.heap.size W w' := by
  have hcon := fun w => ival_Holds.calls 1 3 2 true w (by rw [iholds_eq]; rfl)
  go_enter Try.func42, Try.ntmps42
  go_wp2_with (first | (go_at_call 28; go_loud (refine (hcon _).mono ?_; rintro e w1 ⟨rfl, hb⟩; have HB := Aside0.mk hb; clear hb)))
  go_ret
  exact ⟨rfl, HB.out⟩
set_option maxRecDepth 100000 in
set_option maxHeartbeats 8000000 in
theorem most_any (w : World) (A : Option Addr) (c : Nat) (l : List S61) (hr : Kd.C k61 w A l.length l) (hc : l.length ≤ c) (hm : l.length ≤ maxLen) :
    Calls Try.prog 9 #[.slice A l.length c] w fun en w' => en = .returned (.bool true) ∧ Below w.heap.size w w' := by
  unfold maxLen at hm
  by_cases hn : l.length ≤ 100
  · have hnb : decide ((l.length : Int) > 100) = false := decide_eq_false (by omega)
    have h1 := most_ok w A c l hr (by omega)
    have hp := sorted_perm (l.map pr)
    obtain ⟨hsp, hmx⟩ := sweep_spec (l.map pr) (sorted (l.map pr)) hp (sorted_pair _)
    obtain ⟨kf, hk⟩ := ref_most l (by omega) _ _ _ hsp hmx
    obtain ⟨lo, hlo⟩ : ∃ x, (sweep (sorted (l.map pr))).lo = x := ⟨_, rfl⟩
    obtain ⟨hi, hhi⟩ : ∃ x, (sweep (sorted (l.map pr))).hi = x := ⟨_, rfl⟩
    obtain ⟨mn, hmn⟩ : ∃ x, (sweep (sorted (l.map pr))).many = x := ⟨_, rfl⟩
    rw [hlo, hhi, hmn] at h1 hk
    clear hlo hhi hmn hsp hmx hp
    have HR := Aside0.mk hr
    have HK := Aside0.mk hk
    clear hr hk
    go_enter Try.func9, Try.ntmps9
    go_upto_region 4 with (first | (go_at_call 43; go_loud (refine h1.mono ?_; rintro e w1 ⟨rfl, hb⟩; have B1 := Aside0.mk hb; clear hb)))
    go_upto_region 5 with (first | (go_at_call 44; go_loud (refine (carillonref08_Most.calls kf A c l lo hi mn _ (Kd.C_alloc (Kd.C_below HR.out B1.out) _) hc HK.out).mono ?_; rintro e w2 ⟨rfl, hb⟩; have B2 : Aside0 (Below w.heap.size w w2) := ⟨below_step (below_alloc B1.out _) hb⟩; have K2 : Aside0 (w2.heap[w1.heap.size]? = some (.cells #[.int .i64 lo, .int .i64 hi] 61 (0, 0))) := ⟨blk_below (blk_new w1 _) hb⟩; clear hb)))
    have q0 : w2.cell? ⟨w1.heap.size, 0, none⟩ = some (.int .i64 lo) := (blk_cell K2.out 0).trans rfl
    have q1 : w2.cell? ⟨w1.heap.size, 1, none⟩ = some (.int .i64 hi) := (blk_cell K2.out 1).trans rfl
    clear h1
    go_wp2_with (first | (go_at_call 42; go_loud (refine (awake_ok _).mono ?_; rintro e w3 ⟨rfl, hb⟩; have B3 := Aside0.mk (below_step (below_alloc B2.out _) hb); clear hb)))
    go_ret
    exact ⟨rfl, B3.out⟩
  · have hnb : decide ((l.length : Int) > 100) = true := decide_eq_true (by omega)
    have HR := Aside0.mk hr
    clear hr
    go_enter Try.func9, Try.ntmps9
    go_wp2_with (first | (go_at_call 42; go_loud (refine (awake_ok _).mono ?_; rintro e w3 ⟨rfl, hb⟩; have B3 := Aside0.mk hb; clear hb)))
    go_ret
    exact ⟨rfl, B3.out⟩
end Go.Proofs.Ytfaikkhnlioajaa.Iv6
