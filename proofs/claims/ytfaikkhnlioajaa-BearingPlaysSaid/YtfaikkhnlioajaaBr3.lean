/- How far another one is ahead. -/
import Derived.Test.YtfaikkhnlioajaaProg
import Derived.Below
import Derived.Deep.Draws
import Derived.Deep.AppendLies
import Derived.Maps.AppendAt
import Derived.OwnWalk
import Derived.Laws.BytesArg
import Derived.Laws.MakeOwn
import Derived.Laws.OwnMore
import Derived.Deep.OwnRows
import Derived.Tactics
import Derived.Lib.ConvBytes
import Derived.Laws.Slices
import Derived.WalkKit
import Derived.KernelRfl
import Derived.RowKit3
import Derived.Deep.LoopGhost
import Derived.Deep.QuietTactic
import Derived.BigQuiet
import Derived.WideLaws
import Derived.Deep.DeepCutAuto
import Derived.Deep.CutBlock
import Derived.Deep.RegionHeld3
import Derived.Laws.Rows
import Derived.Lib.AppendStr
import Derived.ArgAppend
import Derived.Laws.IdiomCopy
import Derived.OrdersHeld
import Derived.Laws.BitsLemmas
import Derived.RowKit
import Derived.RegionTactic
import Derived.ChangeAlike
import Derived.Outline
import Derived.LoopTactic
import Derived.WalkSpells
import Derived.WalkLawsBesides
import Derived.Lib.Hide
import Derived.StillTailTactics
import Derived.Deep.RegionWith
import Derived.Deep.RegionLaw
import Derived.Deep.DeepFit
import Derived.Deep.DeepMust
import Derived.Test.YtfaikkhnlioajaaWWords
import Derived.Test.YtfaikkhnlioajaaWLast
import Derived.Test.YtfaikkhnlioajaaWTab
import Derived.Test.YtfaikkhnlioajaaWFour
import Derived.Test.YtfaikkhnlioajaaWQPut
import Derived.Test.YtfaikkhnlioajaaWApart
import Derived.Test.YtfaikkhnlioajaaWArr
import Derived.Test.YtfaikkhnlioajaaWZeros
import Derived.Test.YtfaikkhnlioajaaWFoot
import Derived.Test.YtfaikkhnlioajaaWKept
import Derived.Test.YtfaikkhnlioajaaWShare
import Derived.Test.YtfaikkhnlioajaaWN
import Derived.Test.YtfaikkhnlioajaaWFootNe
import Derived.Test.YtfaikkhnlioajaaWAt
import Derived.Test.YtfaikkhnlioajaaWEqStruct
import Derived.Test.YtfaikkhnlioajaaWRepsOne
import Derived.Test.YtfaikkhnlioajaaWInv
import Derived.Test.YtfaikkhnlioajaaWInvWords
import Derived.Test.YtfaikkhnlioajaaWGuard
import Derived.Test.YtfaikkhnlioajaaWNEv
import Derived.Test.YtfaikkhnlioajaaWMore
import Derived.Test.YtfaikkhnlioajaaZB
namespace Go.Proofs.Ytfaikkhnlioajaa.Br3
open Go.RowKit Go.Proofs.YtfaikkhnlioajaaW.PrintWords Go.Proofs.YtfaikkhnlioajaaW.PrintLast Go.Proofs.YtfaikkhnlioajaaW.PrintMore 
attribute [local go_sem] max2_int min2_int max_two min_two max_three min_three max_four min_four
set_option linter.unusedVariables false
set_option linter.unusedSimpArgs false
open Go.Proofs.Ytfaikkhnlioajaa.QBase Go.Proofs.Ytfaikkhnlioajaa.Sch Go.Proofs.Ytfaikkhnlioajaa.Plc Go.Proofs.Ytfaikkhnlioajaa.Gd1 Go.Proofs.Ytfaikkhnlioajaa.Gd2 Go.Proofs.Ytfaikkhnlioajaa.Gd3 Go.Proofs.Ytfaikkhnlioajaa.Gd4 Go.Proofs.Ytfaikkhnlioajaa.BrP Go.Proofs.Ytfaikkhnlioajaa.Br1 Go.Proofs.Ytfaikkhnlioajaa.Br2 Go.Maps
attribute [local go_sem] cellS1 frozenS1 cellS2 frozenS2 cellS3 frozenS3 cellS4 frozenS4 cellS5 frozenS5 cellS6 frozenS6

set_option maxRecDepth 100000 in
set_option maxHeartbeats 4000000 in
theorem at_bad (g bm : Nat) (n f s dl ks ee wd rh sl cp i : Int) (r t : Int) (z w : World) (hI : IsT z w g bm n f s dl ks ee wd rh sl cp i) (hmay : mayF n i r t = false) : Calls Try.prog 26 #[.pointer (some ⟨g, 0, none⟩), .int .i64 r, .int .i64 t] w fun en w' => en = .returned (.tuple #[.agg #[.int .i64 0, .int .i64 0], .int .i64 1]) ∧ Below w.heap.size w w' := by
  have HI := Aside0.mk hI
  have HMAY := Aside0.mk hmay
  clear hI hmay
  go_enter Try.func26, Try.ntmps26
  go_wp2_with (first | (go_at_call 53; go_loud (refine (none_ok g bm n f s dl ks ee wd rh sl cp i z _ (IsT.alloc HI.out _)).mono ?_; rintro en w1 ⟨rfl, e1⟩; rw [e1]; clear e1)) | (go_at_call 54; go_loud (refine (may_any g bm n f s dl ks ee wd rh sl cp i r t z _ (IsT.alloc HI.out _) false HMAY.out).mono ?_; rintro en w1 ⟨rfl, e1⟩; rw [e1]; clear e1)))
  refine bodyPost_ret (results_ct rfl _ _ _ 61 #[.int .i64 0, .int .i64 0] (0, 0) _ rfl (by (with_reducible repeat (first | exact blk_new _ _ | refine blk_drewN ?_ _ | refine blk_drew ?_ | refine blk_alloc ?_ _)); all_goals (first | exact FB.out | (refine blk_put (cs := #[.int .i64 0, .int .i64 0]) ?_ 1 _ rfl; (with_reducible repeat (first | refine blk_drewN ?_ _ | refine blk_drew ?_ | refine blk_alloc ?_ _)); refine blk_put (cs := #[.int .i64 0, .int .i64 0]) ?_ 0 _ rfl; (with_reducible repeat (first | exact FB.out | refine blk_drewN ?_ _ | refine blk_drew ?_ | refine blk_alloc ?_ _ | exact blk_new _ _))))) Try.underlying61 rfl (by kernel_rfl)) rfl ⟨rfl, by (with_reducible repeat (first | exact Below.refl _ _ | exact HB.out | refine below_alloc ?_ _ | refine pw_below_drewN ?_ _ | refine below_drew1 ?_ | refine below_set ?_ (by first | (simp; omega) | simp | omega)))⟩
set_option maxRecDepth 100000 in
set_option maxHeartbeats 4000000 in
theorem at_gone (g bm : Nat) (n f s dl ks ee wd rh sl cp i : Int) (r t : Int) (z w : World) (hI : IsT z w g bm n f s dl ks ee wd rh sl cp i) (k : Nat) (M : Int → Option (Int × Int × Int)) (hM : KMap w bm k M) (hn : n ≤ 8) (hmay : mayF n i r t = true) (h : M r = none) : Calls Try.prog 26 #[.pointer (some ⟨g, 0, none⟩), .int .i64 r, .int .i64 t] w fun en w' => en = .returned (.tuple #[.agg #[.int .i64 0, .int .i64 0], .int .i64 6]) ∧ Below w.heap.size w w' := by
  have c11 : w.cell? ⟨g, 11, none⟩ = some (.map (some bm)) := (blk_cell hI.1 11).trans rfl
  have hmy := of_decide_eq_true hmay
  obtain ⟨r0, r1, r2, t0, t1⟩ := hmy
  have hl : (Instr.lookup 100 (.map (some bm)) (.int .i64 r) true).run Try.prog (w.alloc (.cells #[.int .i64 0, .int .i64 0] 61)) = .ok (.tuple #[.agg #[.int .i64 0, .int .i64 0, .int .i64 0], .bool false]) (w.alloc (.cells #[.int .i64 0, .int .i64 0] 61)) := by
    have := KMap.look (KMap.alloc hM (.cells #[.int .i64 0, .int .i64 0] 61)) r (WalkArith.wf_i64 (by omega))
    rw [h] at this
    exact this
  have HI := Aside0.mk hI
  have HMAY := Aside0.mk hmay
  clear hI hmay hM h
  go_enter Try.func26, Try.ntmps26
  go_wp2_with (first | (go_at_call 53; go_loud (refine (none_ok g bm n f s dl ks ee wd rh sl cp i z _ (IsT.alloc HI.out _)).mono ?_; rintro en w1 ⟨rfl, e1⟩; rw [e1]; clear e1)) | (go_at_call 54; go_loud (refine (may_any g bm n f s dl ks ee wd rh sl cp i r t z _ (IsT.alloc HI.out _) true HMAY.out).mono ?_; rintro en w1 ⟨rfl, e1⟩; rw [e1]; clear e1)))
  refine bodyPost_ret (results_ct rfl _ _ _ 61 #[.int .i64 0, .int .i64 0] (0, 0) _ rfl (by (with_reducible repeat (first | exact blk_new _ _ | refine blk_drewN ?_ _ | refine blk_drew ?_ | refine blk_alloc ?_ _)); all_goals (first | exact FB.out | (refine blk_put (cs := #[.int .i64 0, .int .i64 0]) ?_ 1 _ rfl; (with_reducible repeat (first | refine blk_drewN ?_ _ | refine blk_drew ?_ | refine blk_alloc ?_ _)); refine blk_put (cs := #[.int .i64 0, .int .i64 0]) ?_ 0 _ rfl; (with_reducible repeat (first | exact FB.out | refine blk_drewN ?_ _ | refine blk_drew ?_ | refine blk_alloc ?_ _ | exact blk_new _ _))))) Try.underlying61 rfl (by kernel_rfl)) rfl ⟨rfl, by (with_reducible repeat (first | exact Below.refl _ _ | exact HB.out | refine below_alloc ?_ _ | refine pw_below_drewN ?_ _ | refine below_drew1 ?_ | refine below_set ?_ (by first | (simp; omega) | simp | omega)))⟩
set_option maxRecDepth 100000 in
set_option maxHeartbeats 4000000 in
theorem at_early (g bm : Nat) (n f s dl ks ee wd rh sl cp i : Int) (r t lo hi at_ : Int) (z w : World) (hI : IsT z w g bm n f s dl ks ee wd rh sl cp i) (k : Nat) (M : Int → Option (Int × Int × Int)) (hM : KMap w bm k M) (hn : n ≤ 8) (hmay : mayF n i r t = true) (h : M r = some (lo, hi, at_)) (a0 : 0 ≤ at_) (a1 : at_ ≤ 1099511627776) (h2 : t - at_ < 0) : Calls Try.prog 26 #[.pointer (some ⟨g, 0, none⟩), .int .i64 r, .int .i64 t] w fun en w' => en = .returned (.tuple #[.agg #[.int .i64 0, .int .i64 0], .int .i64 6]) ∧ Below w.heap.size w w' := by
  have c11 : w.cell? ⟨g, 11, none⟩ = some (.map (some bm)) := (blk_cell hI.1 11).trans rfl
  have hmy := of_decide_eq_true hmay
  obtain ⟨r0, r1, r2, t0, t1⟩ := hmy
  have hl : (Instr.lookup 100 (.map (some bm)) (.int .i64 r) true).run Try.prog (w.alloc (.cells #[.int .i64 0, .int .i64 0] 61)) = .ok (.tuple #[.agg #[.int .i64 lo, .int .i64 hi, .int .i64 at_], .bool true]) (w.alloc (.cells #[.int .i64 0, .int .i64 0] 61)) := by
    have := KMap.look (KMap.alloc hM (.cells #[.int .i64 0, .int .i64 0] 61)) r (WalkArith.wf_i64 (by omega))
    rw [h] at this
    exact this
  have HI := Aside0.mk hI
  have HMAY := Aside0.mk hmay
  have h2b : decide (t - at_ < 0) = true := decide_eq_true h2
  clear hI hmay hM h
  go_enter Try.func26, Try.ntmps26
  go_wp2_with (first | (go_at_call 53; go_loud (refine (none_ok g bm n f s dl ks ee wd rh sl cp i z _ (IsT.alloc HI.out _)).mono ?_; rintro en w1 ⟨rfl, e1⟩; rw [e1]; clear e1)) | (go_at_call 54; go_loud (refine (may_any g bm n f s dl ks ee wd rh sl cp i r t z _ (IsT.alloc HI.out _) true HMAY.out).mono ?_; rintro en w1 ⟨rfl, e1⟩; rw [e1]; clear e1)))
  refine bodyPost_ret (results_ct rfl _ _ _ 61 #[.int .i64 0, .int .i64 0] (0, 0) _ rfl (by (with_reducible repeat (first | exact blk_new _ _ | refine blk_drewN ?_ _ | refine blk_drew ?_ | refine blk_alloc ?_ _)); all_goals (first | exact FB.out | (refine blk_put (cs := #[.int .i64 0, .int .i64 0]) ?_ 1 _ rfl; (with_reducible repeat (first | refine blk_drewN ?_ _ | refine blk_drew ?_ | refine blk_alloc ?_ _)); refine blk_put (cs := #[.int .i64 0, .int .i64 0]) ?_ 0 _ rfl; (with_reducible repeat (first | exact FB.out | refine blk_drewN ?_ _ | refine blk_drew ?_ | refine blk_alloc ?_ _ | exact blk_new _ _))))) Try.underlying61 rfl (by kernel_rfl)) rfl ⟨rfl, by (with_reducible repeat (first | exact Below.refl _ _ | exact HB.out | refine below_alloc ?_ _ | refine pw_below_drewN ?_ _ | refine below_drew1 ?_ | refine below_set ?_ (by first | (simp; omega) | simp | omega)))⟩

set_option maxRecDepth 100000 in
set_option maxHeartbeats 4000000 in
theorem at_late (g bm : Nat) (n f s dl ks ee wd rh sl cp i : Int) (r t lo hi at_ kp : Int) (z w : World) (hI : IsT z w g bm n f s dl ks ee wd rh sl cp i) (k : Nat) (M : Int → Option (Int × Int × Int)) (hM : KMap w bm k M) (hn : n ≤ 8) (hkp : sched_Keep.f 3 n f s dl ks ee wd rh sl cp = some kp) (hmay : mayF n i r t = true) (h : M r = some (lo, hi, at_)) (a0 : 0 ≤ at_) (a1 : at_ ≤ 1099511627776) (h2 : 0 ≤ t - at_) (h3 : kp < t - at_) : Calls Try.prog 26 #[.pointer (some ⟨g, 0, none⟩), .int .i64 r, .int .i64 t] w fun en w' => en = .returned (.tuple #[.agg #[.int .i64 0, .int .i64 0], .int .i64 6]) ∧ Below w.heap.size w w' := by
  have c11 : w.cell? ⟨g, 11, none⟩ = some (.map (some bm)) := (blk_cell hI.1 11).trans rfl
  have hmy := of_decide_eq_true hmay
  obtain ⟨r0, r1, r2, t0, t1⟩ := hmy
  have hl : (Instr.lookup 100 (.map (some bm)) (.int .i64 r) true).run Try.prog (w.alloc (.cells #[.int .i64 0, .int .i64 0] 61)) = .ok (.tuple #[.agg #[.int .i64 lo, .int .i64 hi, .int .i64 at_], .bool true]) (w.alloc (.cells #[.int .i64 0, .int .i64 0] 61)) := by
    have := KMap.look (KMap.alloc hM (.cells #[.int .i64 0, .int .i64 0] 61)) r (WalkArith.wf_i64 (by omega))
    rw [h] at this
    exact this
  have c0 : w.cell? ⟨g, 0, none⟩ = some (.int .i64 n) := (blk_cell hI.1 0).trans rfl
  have c1 : w.cell? ⟨g, 1, none⟩ = some (.int .i64 f) := (blk_cell hI.1 1).trans rfl
  have c2 : w.cell? ⟨g, 2, none⟩ = some (.int .i64 s) := (blk_cell hI.1 2).trans rfl
  have c3 : w.cell? ⟨g, 3, none⟩ = some (.int .i64 dl) := (blk_cell hI.1 3).trans rfl
  have c4 : w.cell? ⟨g, 4, none⟩ = some (.int .i64 ks) := (blk_cell hI.1 4).trans rfl
  have c5 : w.cell? ⟨g, 5, none⟩ = some (.int .i64 ee) := (blk_cell hI.1 5).trans rfl
  have c6 : w.cell? ⟨g, 6, none⟩ = some (.int .i64 wd) := (blk_cell hI.1 6).trans rfl
  have c7 : w.cell? ⟨g, 7, none⟩ = some (.int .i64 rh) := (blk_cell hI.1 7).trans rfl
  have c8 : w.cell? ⟨g, 8, none⟩ = some (.int .i64 sl) := (blk_cell hI.1 8).trans rfl
  have c9 : w.cell? ⟨g, 9, none⟩ = some (.int .i64 cp) := (blk_cell hI.1 9).trans rfl
  have HI := Aside0.mk hI
  have HMAY := Aside0.mk hmay
  have HKP := Aside0.mk hkp
  have h2b : decide (t - at_ < 0) = false := decide_eq_false (by omega)
  have h3b : decide (kp < t - at_) = true := decide_eq_true (by omega)
  clear hI hmay hM h hkp
  go_enter Try.func26, Try.ntmps26
  go_wp2_with (first | (go_at_call 53; go_loud (refine (none_ok g bm n f s dl ks ee wd rh sl cp i z _ (IsT.alloc HI.out _)).mono ?_; rintro en w1 ⟨rfl, e1⟩; rw [e1]; clear e1)) | (go_at_call 54; go_loud (refine (may_any g bm n f s dl ks ee wd rh sl cp i r t z _ (IsT.alloc HI.out _) true HMAY.out).mono ?_; rintro en w1 ⟨rfl, e1⟩; rw [e1]; clear e1)) | (go_at_call 56; go_loud (refine (sched_Keep.calls 3 n f s dl ks ee wd rh sl cp kp _ HKP.out).mono ?_; rintro en w3 ⟨rfl, hb3⟩; have J3 : Aside0 (IsT z w3 g bm n f s dl ks ee wd rh sl cp i) := ⟨IsT.below (IsT.alloc (IsT.alloc HI.out _) _) hb3⟩; have FA : Aside0 (w3.heap[w.heap.size]? = some (.cells #[.int .i64 0, .int .i64 0] 61 (0, 0))) := ⟨blk_below (blk_alloc (blk_new _ _) _) hb3⟩; have FK : Aside0 (w3.heap[w.heap.size + 1]? = some (.cells #[.int .i64 lo, .int .i64 hi, .int .i64 at_] 105 (0, 0))) := ⟨blk_below (by simpa using blk_new (w.alloc (.cells #[.int .i64 0, .int .i64 0] 61)) (.cells #[.int .i64 lo, .int .i64 hi, .int .i64 at_] 105 (0, 0))) hb3⟩; have B3 : Aside0 (Below w.heap.size w w3) := ⟨below_step (below_alloc (below_alloc (Below.refl _ _) _) _) hb3⟩; have fa0 : w3.cell? ⟨w.heap.size, 0, none⟩ = some (.int .i64 0) := (blk_cell FA.out 0).trans rfl; have faf0 : w3.frozen? ⟨w.heap.size, 0, none⟩ = false := blk_frozen FA.out 0; have fa1 : w3.cell? ⟨w.heap.size, 1, none⟩ = some (.int .i64 0) := (blk_cell FA.out 1).trans rfl; have faf1 : w3.frozen? ⟨w.heap.size, 1, none⟩ = false := blk_frozen FA.out 1; clear hb3)))
  have FB := FA
  have HB := B3
  refine bodyPost_ret (results_ct rfl _ _ _ 61 #[.int .i64 0, .int .i64 0] (0, 0) _ rfl (by (with_reducible repeat (first | exact blk_new _ _ | refine blk_drewN ?_ _ | refine blk_drew ?_ | refine blk_alloc ?_ _)); all_goals (first | exact FB.out | (refine blk_put (cs := #[.int .i64 0, .int .i64 0]) ?_ 1 _ rfl; (with_reducible repeat (first | refine blk_drewN ?_ _ | refine blk_drew ?_ | refine blk_alloc ?_ _)); refine blk_put (cs := #[.int .i64 0, .int .i64 0]) ?_ 0 _ rfl; (with_reducible repeat (first | exact FB.out | refine blk_drewN ?_ _ | refine blk_drew ?_ | refine blk_alloc ?_ _ | exact blk_new _ _))))) Try.underlying61 rfl (by kernel_rfl)) rfl ⟨rfl, by (with_reducible repeat (first | exact Below.refl _ _ | exact HB.out | refine below_alloc ?_ _ | refine pw_below_drewN ?_ _ | refine below_drew1 ?_ | refine below_set ?_ (by first | (simp; omega) | simp | omega)))⟩
set_option maxRecDepth 100000 in
set_option maxHeartbeats 8000000 in
theorem at_grow (g bm : Nat) (n f s dl ks ee wd rh sl cp i : Int) (r t lo hi at_ kp x y e : Int) (z w : World) (hI : IsT z w g bm n f s dl ks ee wd rh sl cp i) (k : Nat) (M : Int → Option (Int × Int × Int)) (hM : KMap w bm k M) (hn : n ≤ 8) (hkp : sched_Keep.f 3 n f s dl ks ee wd rh sl cp = some kp) (hmay : mayF n i r t = true) (h : M r = some (lo, hi, at_)) (a0 : 0 ≤ at_) (a1 : at_ ≤ 1099511627776) (h2 : 0 ≤ t - at_) (h3 : t - at_ ≤ kp) (rh0 : 0 ≤ rh) (rh1 : rh ≤ 100) (sl0 : 0 ≤ sl) (sl1 : sl ≤ 100) (hg : ival_Grow.f lo hi (t - at_) (rh + sl) = some (x, y, e)) (he : e ≠ 0) : Calls Try.prog 26 #[.pointer (some ⟨g, 0, none⟩), .int .i64 r, .int .i64 t] w fun en w' => en = .returned (.tuple #[.agg #[.int .i64 0, .int .i64 0], .int .i64 6]) ∧ Below w.heap.size w w' := by
  have c11 : w.cell? ⟨g, 11, none⟩ = some (.map (some bm)) := (blk_cell hI.1 11).trans rfl
  have hmy := of_decide_eq_true hmay
  obtain ⟨r0, r1, r2, t0, t1⟩ := hmy
  have hl : (Instr.lookup 100 (.map (some bm)) (.int .i64 r) true).run Try.prog (w.alloc (.cells #[.int .i64 0, .int .i64 0] 61)) = .ok (.tuple #[.agg #[.int .i64 lo, .int .i64 hi, .int .i64 at_], .bool true]) (w.alloc (.cells #[.int .i64 0, .int .i64 0] 61)) := by
    have := KMap.look (KMap.alloc hM (.cells #[.int .i64 0, .int .i64 0] 61)) r (WalkArith.wf_i64 (by omega))
    rw [h] at this
    exact this
  have c0 : w.cell? ⟨g, 0, none⟩ = some (.int .i64 n) := (blk_cell hI.1 0).trans rfl
  have c1 : w.cell? ⟨g, 1, none⟩ = some (.int .i64 f) := (blk_cell hI.1 1).trans rfl
  have c2 : w.cell? ⟨g, 2, none⟩ = some (.int .i64 s) := (blk_cell hI.1 2).trans rfl
  have c3 : w.cell? ⟨g, 3, none⟩ = some (.int .i64 dl) := (blk_cell hI.1 3).trans rfl
  have c4 : w.cell? ⟨g, 4, none⟩ = some (.int .i64 ks) := (blk_cell hI.1 4).trans rfl
  have c5 : w.cell? ⟨g, 5, none⟩ = some (.int .i64 ee) := (blk_cell hI.1 5).trans rfl
  have c6 : w.cell? ⟨g, 6, none⟩ = some (.int .i64 wd) := (blk_cell hI.1 6).trans rfl
  have c7 : w.cell? ⟨g, 7, none⟩ = some (.int .i64 rh) := (blk_cell hI.1 7).trans rfl
  have c8 : w.cell? ⟨g, 8, none⟩ = some (.int .i64 sl) := (blk_cell hI.1 8).trans rfl
  have c9 : w.cell? ⟨g, 9, none⟩ = some (.int .i64 cp) := (blk_cell hI.1 9).trans rfl
  have HI := Aside0.mk hI
  have HMAY := Aside0.mk hmay
  have HKP := Aside0.mk hkp
  have HG := Aside0.mk hg
  have h2b : decide (t - at_ < 0) = false := decide_eq_false (by omega)
  have h3b : decide (kp < t - at_) = false := decide_eq_false (by omega)
  have heb : (e != 0) = true := bne_iff_ne.2 he
  clear he
  clear hI hmay hM h hkp hg
  go_enter Try.func26, Try.ntmps26
  go_upto_region 9 with (first | (go_at_call 53; go_loud (refine (none_ok g bm n f s dl ks ee wd rh sl cp i z _ (IsT.alloc HI.out _)).mono ?_; rintro en w1 ⟨rfl, e1⟩; rw [e1]; clear e1)) | (go_at_call 54; go_loud (refine (may_any g bm n f s dl ks ee wd rh sl cp i r t z _ (IsT.alloc HI.out _) true HMAY.out).mono ?_; rintro en w1 ⟨rfl, e1⟩; rw [e1]; clear e1)) | (go_at_call 56; go_loud (refine (sched_Keep.calls 3 n f s dl ks ee wd rh sl cp kp _ HKP.out).mono ?_; rintro en w3 ⟨rfl, hb3⟩; have J3 : Aside0 (IsT z w3 g bm n f s dl ks ee wd rh sl cp i) := ⟨IsT.below (IsT.alloc (IsT.alloc HI.out _) _) hb3⟩; have FA : Aside0 (w3.heap[w.heap.size]? = some (.cells #[.int .i64 0, .int .i64 0] 61 (0, 0))) := ⟨blk_below (blk_alloc (blk_new _ _) _) hb3⟩; have FK : Aside0 (w3.heap[w.heap.size + 1]? = some (.cells #[.int .i64 lo, .int .i64 hi, .int .i64 at_] 105 (0, 0))) := ⟨blk_below (by simpa using blk_new (w.alloc (.cells #[.int .i64 0, .int .i64 0] 61)) (.cells #[.int .i64 lo, .int .i64 hi, .int .i64 at_] 105 (0, 0))) hb3⟩; have B3 : Aside0 (Below w.heap.size w w3) := ⟨below_step (below_alloc (below_alloc (Below.refl _ _) _) _) hb3⟩; have fa0 : w3.cell? ⟨w.heap.size, 0, none⟩ = some (.int .i64 0) := (blk_cell FA.out 0).trans rfl; have faf0 : w3.frozen? ⟨w.heap.size, 0, none⟩ = false := blk_frozen FA.out 0; have fa1 : w3.cell? ⟨w.heap.size, 1, none⟩ = some (.int .i64 0) := (blk_cell FA.out 1).trans rfl; have faf1 : w3.frozen? ⟨w.heap.size, 1, none⟩ = false := blk_frozen FA.out 1; have d7 : w3.cell? ⟨g, 7, none⟩ = some (.int .i64 rh) := (blk_cell J3.out.1 7).trans rfl; have d8 : w3.cell? ⟨g, 8, none⟩ = some (.int .i64 sl) := (blk_cell J3.out.1 8).trans rfl; have fk0 : w3.cell? ⟨(w.heap.size + 1), 0, none⟩ = some (.int .i64 lo) := (blk_cell FK.out 0).trans rfl; have fkf0 : w3.frozen? ⟨(w.heap.size + 1), 0, none⟩ = false := blk_frozen FK.out 0; have fk1 : w3.cell? ⟨(w.heap.size + 1), 1, none⟩ = some (.int .i64 hi) := (blk_cell FK.out 1).trans rfl; have fkf1 : w3.frozen? ⟨(w.heap.size + 1), 1, none⟩ = false := blk_frozen FK.out 1; have fk2 : w3.cell? ⟨(w.heap.size + 1), 2, none⟩ = some (.int .i64 at_) := (blk_cell FK.out 2).trans rfl; have fkf2 : w3.frozen? ⟨(w.heap.size + 1), 2, none⟩ = false := blk_frozen FK.out 2; clear hb3)))
  have q1 := Aside0.mk (blk_drew FA.out)
  have q2 := Aside0.mk (below_drew B3.out)
  have q3 := Aside0.mk (IsT.drew J3.out)
  have q4 := Aside0.mk (blk_drew FK.out)
  have n1 := World.new_ne w3 _ d7
  have n2 := World.new_ne w3 _ fk0
  have n3 := World.new_ne w3 _ fa0
  have v1 : IntKind.i64.wrap (rh + sl) = rh + sl := by rw [IntKind.wrap_i64]; omega
  clear hl h2b h3b
  go_region_held3 (fun W => W.cell? ⟨g, 7, none⟩ = some (.int .i64 rh) ∧ W.cell? ⟨g, 8, none⟩ = some (.int .i64 sl) ∧ W.cell? ⟨w.heap.size + 1, 0, none⟩ = some (.int .i64 lo) ∧ W.cell? ⟨w.heap.size + 1, 1, none⟩ = some (.int .i64 hi)) (go_keep) (first | (go_at_call 57; go_loud (refine (ival_Grow.calls lo hi (t - at_) (rh + sl) x y e _ HG.out).mono ?_; rintro en w5 ⟨rfl, hb⟩; have F5 : Aside0 (w5.heap[w.heap.size]? = some (.cells #[.int .i64 0, .int .i64 0] 61 (0, 0))) := ⟨blk_below (by first | exact q1.out | exact blk_alloc q1.out _) hb⟩; have B5 : Aside0 (Below w.heap.size w w5) := ⟨below_step (by first | exact q2.out | exact below_alloc q2.out _) hb⟩; have fb0 : w5.cell? ⟨w.heap.size, 0, none⟩ = some (.int .i64 0) := (blk_cell F5.out 0).trans rfl; have fbf0 : w5.frozen? ⟨w.heap.size, 0, none⟩ = false := blk_frozen F5.out 0; have fb1 : w5.cell? ⟨w.heap.size, 1, none⟩ = some (.int .i64 0) := (blk_cell F5.out 1).trans rfl; have fbf1 : w5.frozen? ⟨w.heap.size, 1, none⟩ = false := blk_frozen F5.out 1; have J5 : Aside0 (IsT z w5 g bm n f s dl ks ee wd rh sl cp i) := ⟨IsT.below (by first | exact q3.out | exact IsT.alloc q3.out _) hb⟩; have K5 : Aside0 (w5.heap[w.heap.size + 1]? = some (.cells #[.int .i64 lo, .int .i64 hi, .int .i64 at_] 105 (0, 0))) := ⟨blk_below (by first | exact q4.out | exact blk_alloc q4.out _) hb⟩; have g7 : w5.cell? ⟨g, 7, none⟩ = some (.int .i64 rh) := (blk_cell J5.out.1 7).trans rfl; have g8 : w5.cell? ⟨g, 8, none⟩ = some (.int .i64 sl) := (blk_cell J5.out.1 8).trans rfl; have gk0 : w5.cell? ⟨(w.heap.size + 1), 0, none⟩ = some (.int .i64 lo) := (blk_cell K5.out 0).trans rfl; have gkf0 : w5.frozen? ⟨(w.heap.size + 1), 0, none⟩ = false := blk_frozen K5.out 0; have gk1 : w5.cell? ⟨(w.heap.size + 1), 1, none⟩ = some (.int .i64 hi) := (blk_cell K5.out 1).trans rfl; have gkf1 : w5.frozen? ⟨(w.heap.size + 1), 1, none⟩ = false := blk_frozen K5.out 1; have gk2 : w5.cell? ⟨(w.heap.size + 1), 2, none⟩ = some (.int .i64 at_) := (blk_cell K5.out 2).trans rfl; have gkf2 : w5.frozen? ⟨(w.heap.size + 1), 2, none⟩ = false := blk_frozen K5.out 2; have n4 := World.new_ne w5 _ g7; have n5 := World.new_ne w5 _ gk0; try (have nb := blk_below (blk_new w3.drew (.cells #[.int .i64 0, .int .i64 0] 61 (0, 0))) hb; have nb0 : w5.cell? ⟨w3.heap.size, 0, none⟩ = some (.int .i64 0) := (blk_cell nb 0).trans rfl; have nbf0 : w5.frozen? ⟨w3.heap.size, 0, none⟩ = false := blk_frozen nb 0; have nb1 : w5.cell? ⟨w3.heap.size, 1, none⟩ = some (.int .i64 0) := (blk_cell nb 1).trans rfl; have nbf1 : w5.frozen? ⟨w3.heap.size, 1, none⟩ = false := blk_frozen nb 1; clear nb); clear hb)))
  all_goals
    have hs3 := B3.out.size
    have hs5 := B5.out.size
    have n6 := World.new_ne w5 _ fb0
    go_wp2
    refine bodyPost_ret (results_ct rfl _ _ _ 61 #[.int .i64 0, .int .i64 0] (0, 0) _ rfl (by (with_reducible repeat (first | exact F5.out | exact blk_new _ _ | refine blk_drewN ?_ _ | refine blk_drew ?_ | refine blk_alloc ?_ _ | (refine blk_far ?_ (by first | exact Ne.symm n3 | exact Ne.symm n6) _))); all_goals (refine blk_put (cs := #[.int .i64 0, .int .i64 0]) ?_ 1 _ rfl; (with_reducible repeat (first | exact F5.out | exact blk_new _ _ | refine blk_drewN ?_ _ | refine blk_drew ?_ | refine blk_alloc ?_ _ | (refine blk_far ?_ (by first | exact Ne.symm n3 | exact Ne.symm n6) _))); all_goals (refine blk_put (cs := #[.int .i64 0, .int .i64 0]) ?_ 0 _ rfl; (with_reducible repeat (first | exact F5.out | exact blk_new _ _ | refine blk_drewN ?_ _ | refine blk_drew ?_ | refine blk_alloc ?_ _ | (refine blk_far ?_ (by first | exact Ne.symm n3 | exact Ne.symm n6) _)))))) Try.underlying61 rfl (by kernel_rfl)) rfl ⟨rfl, by (with_reducible repeat (first | exact B5.out | refine below_alloc ?_ _ | refine pw_below_drewN ?_ _ | refine below_drew1 ?_ | refine below_set ?_ (by first | exact hs3 | exact hs5 | exact Nat.le_refl _)))⟩
set_option maxRecDepth 100000 in
set_option maxHeartbeats 8000000 in
theorem at_ok (g bm : Nat) (n f s dl ks ee wd rh sl cp i : Int) (r t lo hi at_ kp x y e : Int) (z w : World) (hI : IsT z w g bm n f s dl ks ee wd rh sl cp i) (k : Nat) (M : Int → Option (Int × Int × Int)) (hM : KMap w bm k M) (hn : n ≤ 8) (hkp : sched_Keep.f 3 n f s dl ks ee wd rh sl cp = some kp) (hmay : mayF n i r t = true) (h : M r = some (lo, hi, at_)) (a0 : 0 ≤ at_) (a1 : at_ ≤ 1099511627776) (h2 : 0 ≤ t - at_) (h3 : t - at_ ≤ kp) (rh0 : 0 ≤ rh) (rh1 : rh ≤ 100) (sl0 : 0 ≤ sl) (sl1 : sl ≤ 100) (hg : ival_Grow.f lo hi (t - at_) (rh + sl) = some (x, y, 0)) : Calls Try.prog 26 #[.pointer (some ⟨g, 0, none⟩), .int .i64 r, .int .i64 t] w fun en w' => en = .returned (.tuple #[.agg #[.int .i64 x, .int .i64 y], .int .i64 0]) ∧ Below w.heap.size w w' := by
  have c11 : w.cell? ⟨g, 11, none⟩ = some (.map (some bm)) := (blk_cell hI.1 11).trans rfl
  have hmy := of_decide_eq_true hmay
  obtain ⟨r0, r1, r2, t0, t1⟩ := hmy
  have hl : (Instr.lookup 100 (.map (some bm)) (.int .i64 r) true).run Try.prog (w.alloc (.cells #[.int .i64 0, .int .i64 0] 61)) = .ok (.tuple #[.agg #[.int .i64 lo, .int .i64 hi, .int .i64 at_], .bool true]) (w.alloc (.cells #[.int .i64 0, .int .i64 0] 61)) := by
    have := KMap.look (KMap.alloc hM (.cells #[.int .i64 0, .int .i64 0] 61)) r (WalkArith.wf_i64 (by omega))
    rw [h] at this
    exact this
  have c0 : w.cell? ⟨g, 0, none⟩ = some (.int .i64 n) := (blk_cell hI.1 0).trans rfl
  have c1 : w.cell? ⟨g, 1, none⟩ = some (.int .i64 f) := (blk_cell hI.1 1).trans rfl
  have c2 : w.cell? ⟨g, 2, none⟩ = some (.int .i64 s) := (blk_cell hI.1 2).trans rfl
  have c3 : w.cell? ⟨g, 3, none⟩ = some (.int .i64 dl) := (blk_cell hI.1 3).trans rfl
  have c4 : w.cell? ⟨g, 4, none⟩ = some (.int .i64 ks) := (blk_cell hI.1 4).trans rfl
  have c5 : w.cell? ⟨g, 5, none⟩ = some (.int .i64 ee) := (blk_cell hI.1 5).trans rfl
  have c6 : w.cell? ⟨g, 6, none⟩ = some (.int .i64 wd) := (blk_cell hI.1 6).trans rfl
  have c7 : w.cell? ⟨g, 7, none⟩ = some (.int .i64 rh) := (blk_cell hI.1 7).trans rfl
  have c8 : w.cell? ⟨g, 8, none⟩ = some (.int .i64 sl) := (blk_cell hI.1 8).trans rfl
  have c9 : w.cell? ⟨g, 9, none⟩ = some (.int .i64 cp) := (blk_cell hI.1 9).trans rfl
  have HI := Aside0.mk hI
  have HMAY := Aside0.mk hmay
  have HKP := Aside0.mk hkp
  have HG := Aside0.mk hg
  have h2b : decide (t - at_ < 0) = false := decide_eq_false (by omega)
  have h3b : decide (kp < t - at_) = false := decide_eq_false (by omega)
  clear hI hmay hM h hkp hg
  go_enter Try.func26, Try.ntmps26
  go_upto_region 9 with (first | (go_at_call 53; go_loud (refine (none_ok g bm n f s dl ks ee wd rh sl cp i z _ (IsT.alloc HI.out _)).mono ?_; rintro en w1 ⟨rfl, e1⟩; rw [e1]; clear e1)) | (go_at_call 54; go_loud (refine (may_any g bm n f s dl ks ee wd rh sl cp i r t z _ (IsT.alloc HI.out _) true HMAY.out).mono ?_; rintro en w1 ⟨rfl, e1⟩; rw [e1]; clear e1)) | (go_at_call 56; go_loud (refine (sched_Keep.calls 3 n f s dl ks ee wd rh sl cp kp _ HKP.out).mono ?_; rintro en w3 ⟨rfl, hb3⟩; have J3 : Aside0 (IsT z w3 g bm n f s dl ks ee wd rh sl cp i) := ⟨IsT.below (IsT.alloc (IsT.alloc HI.out _) _) hb3⟩; have FA : Aside0 (w3.heap[w.heap.size]? = some (.cells #[.int .i64 0, .int .i64 0] 61 (0, 0))) := ⟨blk_below (blk_alloc (blk_new _ _) _) hb3⟩; have FK : Aside0 (w3.heap[w.heap.size + 1]? = some (.cells #[.int .i64 lo, .int .i64 hi, .int .i64 at_] 105 (0, 0))) := ⟨blk_below (by simpa using blk_new (w.alloc (.cells #[.int .i64 0, .int .i64 0] 61)) (.cells #[.int .i64 lo, .int .i64 hi, .int .i64 at_] 105 (0, 0))) hb3⟩; have B3 : Aside0 (Below w.heap.size w w3) := ⟨below_step (below_alloc (below_alloc (Below.refl _ _) _) _) hb3⟩; have fa0 : w3.cell? ⟨w.heap.size, 0, none⟩ = some (.int .i64 0) := (blk_cell FA.out 0).trans rfl; have faf0 : w3.frozen? ⟨w.heap.size, 0, none⟩ = false := blk_frozen FA.out 0; have fa1 : w3.cell? ⟨w.heap.size, 1, none⟩ = some (.int .i64 0) := (blk_cell FA.out 1).trans rfl; have faf1 : w3.frozen? ⟨w.heap.size, 1, none⟩ = false := blk_frozen FA.out 1; have d7 : w3.cell? ⟨g, 7, none⟩ = some (.int .i64 rh) := (blk_cell J3.out.1 7).trans rfl; have d8 : w3.cell? ⟨g, 8, none⟩ = some (.int .i64 sl) := (blk_cell J3.out.1 8).trans rfl; have fk0 : w3.cell? ⟨(w.heap.size + 1), 0, none⟩ = some (.int .i64 lo) := (blk_cell FK.out 0).trans rfl; have fkf0 : w3.frozen? ⟨(w.heap.size + 1), 0, none⟩ = false := blk_frozen FK.out 0; have fk1 : w3.cell? ⟨(w.heap.size + 1), 1, none⟩ = some (.int .i64 hi) := (blk_cell FK.out 1).trans rfl; have fkf1 : w3.frozen? ⟨(w.heap.size + 1), 1, none⟩ = false := blk_frozen FK.out 1; have fk2 : w3.cell? ⟨(w.heap.size + 1), 2, none⟩ = some (.int .i64 at_) := (blk_cell FK.out 2).trans rfl; have fkf2 : w3.frozen? ⟨(w.heap.size + 1), 2, none⟩ = false := blk_frozen FK.out 2; clear hb3)))
  have q1 := Aside0.mk (blk_drew FA.out)
  have q2 := Aside0.mk (below_drew B3.out)
  have q3 := Aside0.mk (IsT.drew J3.out)
  have q4 := Aside0.mk (blk_drew FK.out)
  have n1 := World.new_ne w3 _ d7
  have n2 := World.new_ne w3 _ fk0
  have n3 := World.new_ne w3 _ fa0
  have v1 : IntKind.i64.wrap (rh + sl) = rh + sl := by rw [IntKind.wrap_i64]; omega
  clear hl h2b h3b
  go_region_held3 (fun W => W.cell? ⟨g, 7, none⟩ = some (.int .i64 rh) ∧ W.cell? ⟨g, 8, none⟩ = some (.int .i64 sl) ∧ W.cell? ⟨w.heap.size + 1, 0, none⟩ = some (.int .i64 lo) ∧ W.cell? ⟨w.heap.size + 1, 1, none⟩ = some (.int .i64 hi)) (go_keep) (first | (go_at_call 57; go_loud (refine (ival_Grow.calls lo hi (t - at_) (rh + sl) x y 0 _ HG.out).mono ?_; rintro en w5 ⟨rfl, hb⟩; have F5 : Aside0 (w5.heap[w.heap.size]? = some (.cells #[.int .i64 0, .int .i64 0] 61 (0, 0))) := ⟨blk_below (by first | exact q1.out | exact blk_alloc q1.out _) hb⟩; have B5 : Aside0 (Below w.heap.size w w5) := ⟨below_step (by first | exact q2.out | exact below_alloc q2.out _) hb⟩; have fb0 : w5.cell? ⟨w.heap.size, 0, none⟩ = some (.int .i64 0) := (blk_cell F5.out 0).trans rfl; have fbf0 : w5.frozen? ⟨w.heap.size, 0, none⟩ = false := blk_frozen F5.out 0; have fb1 : w5.cell? ⟨w.heap.size, 1, none⟩ = some (.int .i64 0) := (blk_cell F5.out 1).trans rfl; have fbf1 : w5.frozen? ⟨w.heap.size, 1, none⟩ = false := blk_frozen F5.out 1; have J5 : Aside0 (IsT z w5 g bm n f s dl ks ee wd rh sl cp i) := ⟨IsT.below (by first | exact q3.out | exact IsT.alloc q3.out _) hb⟩; have K5 : Aside0 (w5.heap[w.heap.size + 1]? = some (.cells #[.int .i64 lo, .int .i64 hi, .int .i64 at_] 105 (0, 0))) := ⟨blk_below (by first | exact q4.out | exact blk_alloc q4.out _) hb⟩; have g7 : w5.cell? ⟨g, 7, none⟩ = some (.int .i64 rh) := (blk_cell J5.out.1 7).trans rfl; have g8 : w5.cell? ⟨g, 8, none⟩ = some (.int .i64 sl) := (blk_cell J5.out.1 8).trans rfl; have gk0 : w5.cell? ⟨(w.heap.size + 1), 0, none⟩ = some (.int .i64 lo) := (blk_cell K5.out 0).trans rfl; have gkf0 : w5.frozen? ⟨(w.heap.size + 1), 0, none⟩ = false := blk_frozen K5.out 0; have gk1 : w5.cell? ⟨(w.heap.size + 1), 1, none⟩ = some (.int .i64 hi) := (blk_cell K5.out 1).trans rfl; have gkf1 : w5.frozen? ⟨(w.heap.size + 1), 1, none⟩ = false := blk_frozen K5.out 1; have gk2 : w5.cell? ⟨(w.heap.size + 1), 2, none⟩ = some (.int .i64 at_) := (blk_cell K5.out 2).trans rfl; have gkf2 : w5.frozen? ⟨(w.heap.size + 1), 2, none⟩ = false := blk_frozen K5.out 2; have n4 := World.new_ne w5 _ g7; have n5 := World.new_ne w5 _ gk0; try (have nb := blk_below (blk_new w3.drew (.cells #[.int .i64 0, .int .i64 0] 61 (0, 0))) hb; have nb0 : w5.cell? ⟨w3.heap.size, 0, none⟩ = some (.int .i64 0) := (blk_cell nb 0).trans rfl; have nbf0 : w5.frozen? ⟨w3.heap.size, 0, none⟩ = false := blk_frozen nb 0; have nb1 : w5.cell? ⟨w3.heap.size, 1, none⟩ = some (.int .i64 0) := (blk_cell nb 1).trans rfl; have nbf1 : w5.frozen? ⟨w3.heap.size, 1, none⟩ = false := blk_frozen nb 1; clear nb); clear hb)))
  all_goals
    have hs3 := B3.out.size
    have hs5 := B5.out.size
    have n6 := World.new_ne w5 _ fb0
    go_wp2
    refine bodyPost_ret (results_ct rfl _ _ _ 61 #[.int .i64 x, .int .i64 y] (0, 0) _ rfl (by (with_reducible repeat (first | exact F5.out | exact blk_new _ _ | refine blk_drewN ?_ _ | refine blk_drew ?_ | refine blk_alloc ?_ _ | (refine blk_far ?_ (by first | exact Ne.symm n3 | exact Ne.symm n6) _))); all_goals (refine blk_put (cs := #[.int .i64 x, .int .i64 0]) ?_ 1 _ rfl; (with_reducible repeat (first | exact F5.out | exact blk_new _ _ | refine blk_drewN ?_ _ | refine blk_drew ?_ | refine blk_alloc ?_ _ | (refine blk_far ?_ (by first | exact Ne.symm n3 | exact Ne.symm n6) _))); all_goals (refine blk_put (cs := #[.int .i64 0, .int .i64 0]) ?_ 0 _ rfl; (with_reducible repeat (first | exact F5.out | exact blk_new _ _ | refine blk_drewN ?_ _ | refine blk_drew ?_ | refine blk_alloc ?_ _ | (refine blk_far ?_ (by first | exact Ne.symm n3 | exact Ne.symm n6) _)))))) Try.underlying61 rfl (by kernel_rfl)) rfl ⟨rfl, by (with_reducible repeat (first | exact B5.out | refine below_alloc ?_ _ | refine pw_below_drewN ?_ _ | refine below_drew1 ?_ | refine below_set ?_ (by first | exact hs3 | exact hs5 | exact Nat.le_refl _)))⟩
end Go.Proofs.Ytfaikkhnlioajaa.Br3
