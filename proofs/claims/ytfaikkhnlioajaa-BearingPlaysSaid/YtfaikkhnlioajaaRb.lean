/- How far another one is ahead, by the reference. -/
import Derived.Test.YtfaikkhnlioajaaProg
import Derived.Below
import Derived.Deep.Draws
import Derived.Deep.AppendLies
import Derived.Maps.AppendAt
import Derived.OwnWalk
import Derived.Laws.BytesArg
import Derived.Laws.MakeOwn
import Derived.Laws.OwnMore
import Derived.Deep.OwnRows
import Derived.Tactics
import Derived.Lib.ConvBytes
import Derived.Laws.Slices
import Derived.WalkKit
import Derived.KernelRfl
import Derived.RowKit3
import Derived.Deep.LoopGhost
import Derived.Deep.QuietTactic
import Derived.BigQuiet
import Derived.WideLaws
import Derived.Deep.DeepCutAuto
import Derived.Deep.CutBlock
import Derived.Deep.RegionHeld3
import Derived.Laws.Rows
import Derived.Lib.AppendStr
import Derived.ArgAppend
import Derived.Laws.IdiomCopy
import Derived.OrdersHeld
import Derived.Laws.BitsLemmas
import Derived.RowKit
import Derived.RegionTactic
import Derived.ChangeAlike
import Derived.Outline
import Derived.LoopTactic
import Derived.WalkSpells
import Derived.WalkLawsBesides
import Derived.Lib.Hide
import Derived.StillTailTactics
import Derived.Deep.RegionWith
import Derived.Deep.RegionLaw
import Derived.Deep.DeepFit
import Derived.Deep.DeepMust
import Derived.Test.YtfaikkhnlioajaaWWords
import Derived.Test.YtfaikkhnlioajaaWLast
import Derived.Test.YtfaikkhnlioajaaWTab
import Derived.Test.YtfaikkhnlioajaaWFour
import Derived.Test.YtfaikkhnlioajaaWQPut
import Derived.Test.YtfaikkhnlioajaaWApart
import Derived.Test.YtfaikkhnlioajaaWArr
import Derived.Test.YtfaikkhnlioajaaWZeros
import Derived.Test.YtfaikkhnlioajaaWFoot
import Derived.Test.YtfaikkhnlioajaaWKept
import Derived.Test.YtfaikkhnlioajaaWShare
import Derived.Test.YtfaikkhnlioajaaWN
import Derived.Test.YtfaikkhnlioajaaWFootNe
import Derived.Test.YtfaikkhnlioajaaWAt
import Derived.Test.YtfaikkhnlioajaaWEqStruct
import Derived.Test.YtfaikkhnlioajaaWRepsOne
import Derived.Test.YtfaikkhnlioajaaWInv
import Derived.Test.YtfaikkhnlioajaaWInvWords
import Derived.Test.YtfaikkhnlioajaaWGuard
import Derived.Test.YtfaikkhnlioajaaWNEv
import Derived.Test.YtfaikkhnlioajaaWMore
import Derived.Test.YtfaikkhnlioajaaRa
namespace Go.Proofs.Ytfaikkhnlioajaa.Rb
open Go.RowKit Go.Proofs.YtfaikkhnlioajaaW.PrintWords Go.Proofs.YtfaikkhnlioajaaW.PrintLast Go.Proofs.YtfaikkhnlioajaaW.PrintMore 
attribute [local go_sem] max2_int min2_int max_two min_two max_three min_three max_four min_four
set_option linter.unusedVariables false
set_option linter.unusedSimpArgs false
open Go.Proofs.Ytfaikkhnlioajaa.QBase Go.Proofs.Ytfaikkhnlioajaa.Sch Go.Proofs.Ytfaikkhnlioajaa.Plc Go.Proofs.Ytfaikkhnlioajaa.Gd1 Go.Proofs.Ytfaikkhnlioajaa.Gd3 Go.Proofs.Ytfaikkhnlioajaa.Gd4 Go.Proofs.Ytfaikkhnlioajaa.BrP Go.Proofs.Ytfaikkhnlioajaa.Br1 Go.Proofs.Ytfaikkhnlioajaa.Br2 Go.Proofs.Ytfaikkhnlioajaa.Br4 Go.Proofs.Ytfaikkhnlioajaa.Ra Go.Maps
attribute [local go_sem] cellS1 frozenS1 cellS2 frozenS2 cellS3 frozenS3 cellS4 frozenS4 cellS5 frozenS5 cellS6 frozenS6

set_option maxRecDepth 100000 in
set_option maxHeartbeats 4000000 in
theorem rat_bad (h lb : Nat) (n f s dl ks ee wd rh sl cp i : Int) (r t : Int) (z w : World) (M : KM) (hI : IsRf z w h lb n f s dl ks ee wd rh sl cp i M) (hmay : mayF n i r t = false) : Calls Try.prog 36 #[.pointer (some ⟨h, 0, none⟩), .int .i64 r, .int .i64 t] w fun en w' => en = .returned (.tuple #[.agg #[.int .i64 0, .int .i64 0], .int .i64 1]) ∧ Below w.heap.size w w' := by
  have HI := Aside0.mk hI
  have HMAY := Aside0.mk hmay
  clear hI hmay
  go_enter Try.func36, Try.ntmps36
  go_wp2_with (first | (go_at_call 59; go_loud (refine (rmay_any h lb n f s dl ks ee wd rh sl cp i r t z _ M (IsRf.alloc HI.out _) false HMAY.out).mono ?_; rintro en w1 ⟨rfl, e1⟩; rw [e1]; clear e1)))
  refine bodyPost_ret (results_ct rfl _ _ _ 61 #[.int .i64 0, .int .i64 0] (0, 0) _ rfl (by (with_reducible repeat (first | exact blk_new _ _ | refine blk_drewN ?_ _ | refine blk_drew ?_ | refine blk_alloc ?_ _)); all_goals (first | exact FB.out | (refine blk_put (cs := #[.int .i64 0, .int .i64 0]) ?_ 1 _ rfl; (with_reducible repeat (first | refine blk_drewN ?_ _ | refine blk_drew ?_ | refine blk_alloc ?_ _)); refine blk_put (cs := #[.int .i64 0, .int .i64 0]) ?_ 0 _ rfl; (with_reducible repeat (first | exact FB.out | refine blk_drewN ?_ _ | refine blk_drew ?_ | refine blk_alloc ?_ _ | exact blk_new _ _))))) Try.underlying61 rfl (by kernel_rfl)) rfl ⟨rfl, by (with_reducible repeat (first | exact Below.refl _ _ | exact HB.out | refine below_alloc ?_ _ | refine pw_below_drewN ?_ _ | refine below_drew1 ?_ | refine below_set ?_ (by first | (simp; omega) | simp | omega)))⟩
set_option maxRecDepth 100000 in
set_option maxHeartbeats 4000000 in
theorem rat_gone (h lb : Nat) (n f s dl ks ee wd rh sl cp i : Int) (r t lo hi at_ : Int) (z w : World) (M : KM) (hI : IsRf z w h lb n f s dl ks ee wd rh sl cp i M) (hmay : mayF n i r t = true) (bb : Bool) (hM : isB (M r) = bb) (h3 : q3 (M r) = (lo, hi, at_)) (hbb : bb = false) : Calls Try.prog 36 #[.pointer (some ⟨h, 0, none⟩), .int .i64 r, .int .i64 t] w fun en w' => en = .returned (.tuple #[.agg #[.int .i64 0, .int .i64 0], .int .i64 6]) ∧ Below w.heap.size w w' := by
  have hmy := of_decide_eq_true hmay
  obtain ⟨r0, r1, r2, t0, t1⟩ := hmy
  have r3 : r < (n.toNat : Int) := by omega
  have hrn : r.toNat < n.toNat := by omega
  have c11 : w.cell? ⟨h, 11, none⟩ = some (.slice (some ⟨lb, 0, none⟩) n.toNat n.toNat) := (blk_cell hI.1 11).trans rfl
  have hq0 : isB (M r) = bb := by rw [hM]
  have e0 : w.cell? ⟨lb, r.toNat * 4, none⟩ = some (.bool bb) := by have := hI.at r.toNat hrn 0 (by omega); rw [Int.toNat_of_nonneg r0] at this; exact this.trans (by rw [← hM]; rfl)
  have e1 : w.cell? ⟨lb, r.toNat * 4 + 1, none⟩ = some (.int .i64 lo) := by have := hI.at r.toNat hrn 1 (by omega); rw [Int.toNat_of_nonneg r0, h3] at this; exact this
  have e2 : w.cell? ⟨lb, r.toNat * 4 + 2, none⟩ = some (.int .i64 hi) := by have := hI.at r.toNat hrn 2 (by omega); rw [Int.toNat_of_nonneg r0, h3] at this; exact this
  have e3 : w.cell? ⟨lb, r.toNat * 4 + 3, none⟩ = some (.int .i64 at_) := by have := hI.at r.toNat hrn 3 (by omega); rw [Int.toNat_of_nonneg r0, h3] at this; exact this
  clear hq0 hrn
  have HI := Aside0.mk hI
  have HMAY := Aside0.mk hmay
  clear hI hmay hM h3
  subst hbb
  go_enter Try.func36, Try.ntmps36
  go_upto_region 4 with (first | (go_at_call 59; go_loud (refine (rmay_any h lb n f s dl ks ee wd rh sl cp i r t z _ M (IsRf.alloc HI.out _) true HMAY.out).mono ?_; rintro en w1 ⟨rfl, e1⟩; rw [e1]; clear e1)))
  refine wp_gen (fun W => (IsRf z W h lb n f s dl ks ee wd rh sl cp i M) ∧ W.heap[w.heap.size]? = some (.cells #[.int .i64 0, .int .i64 0] 61 (0, 0)) ∧ W.heap[w.heap.size + 1]? = some (.cells #[.bool false, .int .i64 lo, .int .i64 hi, .int .i64 at_] 116 (0, 0)) ∧ Below w.heap.size w W) ⟨(HI.out.alloc _).alloc _, blk_alloc (blk_new _ _) _, by simpa using blk_new (w.alloc (.cells #[.int .i64 0, .int .i64 0] 61)) (.cells #[.bool false, .int .i64 lo, .int .i64 hi, .int .i64 at_] 116 (0, 0)), below_alloc (below_alloc (Below.refl _ _) _) _⟩ ?_
  clear c11 e0 e1 e2 e3
  rintro W ⟨j1, j2, j3, j4⟩
  have fa0 : W.cell? ⟨w.heap.size, 0, none⟩ = some (.int .i64 0) := (blk_cell j2 0).trans rfl; have faf0 : W.frozen? ⟨w.heap.size, 0, none⟩ = false := blk_frozen j2 0; have fa1 : W.cell? ⟨w.heap.size, 1, none⟩ = some (.int .i64 0) := (blk_cell j2 1).trans rfl; have faf1 : W.frozen? ⟨w.heap.size, 1, none⟩ = false := blk_frozen j2 1
  have fk0 : W.cell? ⟨(w.heap.size + 1), 0, none⟩ = some (.bool false) := (blk_cell j3 0).trans rfl; have fkf0 : W.frozen? ⟨(w.heap.size + 1), 0, none⟩ = false := blk_frozen j3 0; have fk1 : W.cell? ⟨(w.heap.size + 1), 1, none⟩ = some (.int .i64 lo) := (blk_cell j3 1).trans rfl; have fkf1 : W.frozen? ⟨(w.heap.size + 1), 1, none⟩ = false := blk_frozen j3 1; have fk2 : W.cell? ⟨(w.heap.size + 1), 2, none⟩ = some (.int .i64 hi) := (blk_cell j3 2).trans rfl; have fkf2 : W.frozen? ⟨(w.heap.size + 1), 2, none⟩ = false := blk_frozen j3 2; have fk3 : W.cell? ⟨(w.heap.size + 1), 3, none⟩ = some (.int .i64 at_) := (blk_cell j3 3).trans rfl; have fkf3 : W.frozen? ⟨(w.heap.size + 1), 3, none⟩ = false := blk_frozen j3 3
  have J1 := Aside0.mk j1
  have FB := Aside0.mk j2
  have J3 := Aside0.mk j3
  have HB := Aside0.mk j4
  clear j1 j2 j3 j4
  go_quiet (fail)
  go_wp2
  refine bodyPost_ret (results_ct rfl _ _ _ 61 #[.int .i64 0, .int .i64 0] (0, 0) _ rfl (by (with_reducible repeat (first | exact blk_new _ _ | refine blk_drewN ?_ _ | refine blk_drew ?_ | refine blk_alloc ?_ _)); all_goals (first | exact FB.out | (refine blk_put (cs := #[.int .i64 0, .int .i64 0]) ?_ 1 _ rfl; (with_reducible repeat (first | refine blk_drewN ?_ _ | refine blk_drew ?_ | refine blk_alloc ?_ _)); refine blk_put (cs := #[.int .i64 0, .int .i64 0]) ?_ 0 _ rfl; (with_reducible repeat (first | exact FB.out | refine blk_drewN ?_ _ | refine blk_drew ?_ | refine blk_alloc ?_ _ | exact blk_new _ _))))) Try.underlying61 rfl (by kernel_rfl)) rfl ⟨rfl, by (with_reducible repeat (first | exact Below.refl _ _ | exact HB.out | refine below_alloc ?_ _ | refine pw_below_drewN ?_ _ | refine below_drew1 ?_ | refine below_set ?_ (by first | (simp; omega) | simp | omega)))⟩
set_option maxRecDepth 100000 in
set_option maxHeartbeats 4000000 in
theorem rat_early (h lb : Nat) (n f s dl ks ee wd rh sl cp i : Int) (r t lo hi at_ : Int) (z w : World) (M : KM) (hI : IsRf z w h lb n f s dl ks ee wd rh sl cp i M) (hmay : mayF n i r t = true) (bb : Bool) (hM : isB (M r) = bb) (h3 : q3 (M r) = (lo, hi, at_)) (hbb : bb = true) (h2 : t < at_) : Calls Try.prog 36 #[.pointer (some ⟨h, 0, none⟩), .int .i64 r, .int .i64 t] w fun en w' => en = .returned (.tuple #[.agg #[.int .i64 0, .int .i64 0], .int .i64 6]) ∧ Below w.heap.size w w' := by
  have hmy := of_decide_eq_true hmay
  obtain ⟨r0, r1, r2, t0, t1⟩ := hmy
  have r3 : r < (n.toNat : Int) := by omega
  have hrn : r.toNat < n.toNat := by omega
  have c11 : w.cell? ⟨h, 11, none⟩ = some (.slice (some ⟨lb, 0, none⟩) n.toNat n.toNat) := (blk_cell hI.1 11).trans rfl
  have hq0 : isB (M r) = bb := by rw [hM]
  have e0 : w.cell? ⟨lb, r.toNat * 4, none⟩ = some (.bool bb) := by have := hI.at r.toNat hrn 0 (by omega); rw [Int.toNat_of_nonneg r0] at this; exact this.trans (by rw [← hM]; rfl)
  have e1 : w.cell? ⟨lb, r.toNat * 4 + 1, none⟩ = some (.int .i64 lo) := by have := hI.at r.toNat hrn 1 (by omega); rw [Int.toNat_of_nonneg r0, h3] at this; exact this
  have e2 : w.cell? ⟨lb, r.toNat * 4 + 2, none⟩ = some (.int .i64 hi) := by have := hI.at r.toNat hrn 2 (by omega); rw [Int.toNat_of_nonneg r0, h3] at this; exact this
  have e3 : w.cell? ⟨lb, r.toNat * 4 + 3, none⟩ = some (.int .i64 at_) := by have := hI.at r.toNat hrn 3 (by omega); rw [Int.toNat_of_nonneg r0, h3] at this; exact this
  clear hq0 hrn
  have HI := Aside0.mk hI
  have HMAY := Aside0.mk hmay
  have h2b : decide (t < at_) = true := decide_eq_true h2
  clear hI hmay hM h3
  subst hbb
  go_enter Try.func36, Try.ntmps36
  go_upto_region 4 with (first | (go_at_call 59; go_loud (refine (rmay_any h lb n f s dl ks ee wd rh sl cp i r t z _ M (IsRf.alloc HI.out _) true HMAY.out).mono ?_; rintro en w1 ⟨rfl, e1⟩; rw [e1]; clear e1)))
  refine wp_gen (fun W => (IsRf z W h lb n f s dl ks ee wd rh sl cp i M) ∧ W.heap[w.heap.size]? = some (.cells #[.int .i64 0, .int .i64 0] 61 (0, 0)) ∧ W.heap[w.heap.size + 1]? = some (.cells #[.bool true, .int .i64 lo, .int .i64 hi, .int .i64 at_] 116 (0, 0)) ∧ Below w.heap.size w W) ⟨(HI.out.alloc _).alloc _, blk_alloc (blk_new _ _) _, by simpa using blk_new (w.alloc (.cells #[.int .i64 0, .int .i64 0] 61)) (.cells #[.bool true, .int .i64 lo, .int .i64 hi, .int .i64 at_] 116 (0, 0)), below_alloc (below_alloc (Below.refl _ _) _) _⟩ ?_
  clear c11 e0 e1 e2 e3
  rintro W ⟨j1, j2, j3, j4⟩
  have fa0 : W.cell? ⟨w.heap.size, 0, none⟩ = some (.int .i64 0) := (blk_cell j2 0).trans rfl; have faf0 : W.frozen? ⟨w.heap.size, 0, none⟩ = false := blk_frozen j2 0; have fa1 : W.cell? ⟨w.heap.size, 1, none⟩ = some (.int .i64 0) := (blk_cell j2 1).trans rfl; have faf1 : W.frozen? ⟨w.heap.size, 1, none⟩ = false := blk_frozen j2 1
  have fk0 : W.cell? ⟨(w.heap.size + 1), 0, none⟩ = some (.bool true) := (blk_cell j3 0).trans rfl; have fkf0 : W.frozen? ⟨(w.heap.size + 1), 0, none⟩ = false := blk_frozen j3 0; have fk1 : W.cell? ⟨(w.heap.size + 1), 1, none⟩ = some (.int .i64 lo) := (blk_cell j3 1).trans rfl; have fkf1 : W.frozen? ⟨(w.heap.size + 1), 1, none⟩ = false := blk_frozen j3 1; have fk2 : W.cell? ⟨(w.heap.size + 1), 2, none⟩ = some (.int .i64 hi) := (blk_cell j3 2).trans rfl; have fkf2 : W.frozen? ⟨(w.heap.size + 1), 2, none⟩ = false := blk_frozen j3 2; have fk3 : W.cell? ⟨(w.heap.size + 1), 3, none⟩ = some (.int .i64 at_) := (blk_cell j3 3).trans rfl; have fkf3 : W.frozen? ⟨(w.heap.size + 1), 3, none⟩ = false := blk_frozen j3 3
  have J1 := Aside0.mk j1
  have FB := Aside0.mk j2
  have J3 := Aside0.mk j3
  have HB := Aside0.mk j4
  clear j1 j2 j3 j4
  go_quiet (fail)
  go_wp2
  refine bodyPost_ret (results_ct rfl _ _ _ 61 #[.int .i64 0, .int .i64 0] (0, 0) _ rfl (by (with_reducible repeat (first | exact blk_new _ _ | refine blk_drewN ?_ _ | refine blk_drew ?_ | refine blk_alloc ?_ _)); all_goals (first | exact FB.out | (refine blk_put (cs := #[.int .i64 0, .int .i64 0]) ?_ 1 _ rfl; (with_reducible repeat (first | refine blk_drewN ?_ _ | refine blk_drew ?_ | refine blk_alloc ?_ _)); refine blk_put (cs := #[.int .i64 0, .int .i64 0]) ?_ 0 _ rfl; (with_reducible repeat (first | exact FB.out | refine blk_drewN ?_ _ | refine blk_drew ?_ | refine blk_alloc ?_ _ | exact blk_new _ _))))) Try.underlying61 rfl (by kernel_rfl)) rfl ⟨rfl, by (with_reducible repeat (first | exact Below.refl _ _ | exact HB.out | refine below_alloc ?_ _ | refine pw_below_drewN ?_ _ | refine below_drew1 ?_ | refine below_set ?_ (by first | (simp; omega) | simp | omega)))⟩
set_option maxRecDepth 100000 in
set_option maxHeartbeats 8000000 in
theorem rat_late (h lb : Nat) (n f s dl ks ee wd rh sl cp i : Int) (r t lo hi at_ kp : Int) (z w : World) (M : KM) (hI : IsRf z w h lb n f s dl ks ee wd rh sl cp i M) (hmay : mayF n i r t = true) (bb : Bool) (hM : isB (M r) = bb) (h3 : q3 (M r) = (lo, hi, at_)) (hbb : bb = true) (hkp : carillonref16_Keep.f n f s dl ks ee wd rh sl cp = some kp) (a0 : 0 ≤ at_) (a1 : at_ ≤ 1099511627776) (h2 : ¬ t < at_) (h4 : kp < t - at_) : Calls Try.prog 36 #[.pointer (some ⟨h, 0, none⟩), .int .i64 r, .int .i64 t] w fun en w' => en = .returned (.tuple #[.agg #[.int .i64 0, .int .i64 0], .int .i64 6]) ∧ Below w.heap.size w w' := by
  have hmy := of_decide_eq_true hmay
  obtain ⟨r0, r1, r2, t0, t1⟩ := hmy
  have r3 : r < (n.toNat : Int) := by omega
  have hrn : r.toNat < n.toNat := by omega
  have c11 : w.cell? ⟨h, 11, none⟩ = some (.slice (some ⟨lb, 0, none⟩) n.toNat n.toNat) := (blk_cell hI.1 11).trans rfl
  have hq0 : isB (M r) = bb := by rw [hM]
  have e0 : w.cell? ⟨lb, r.toNat * 4, none⟩ = some (.bool bb) := by have := hI.at r.toNat hrn 0 (by omega); rw [Int.toNat_of_nonneg r0] at this; exact this.trans (by rw [← hM]; rfl)
  have e1 : w.cell? ⟨lb, r.toNat * 4 + 1, none⟩ = some (.int .i64 lo) := by have := hI.at r.toNat hrn 1 (by omega); rw [Int.toNat_of_nonneg r0, h3] at this; exact this
  have e2 : w.cell? ⟨lb, r.toNat * 4 + 2, none⟩ = some (.int .i64 hi) := by have := hI.at r.toNat hrn 2 (by omega); rw [Int.toNat_of_nonneg r0, h3] at this; exact this
  have e3 : w.cell? ⟨lb, r.toNat * 4 + 3, none⟩ = some (.int .i64 at_) := by have := hI.at r.toNat hrn 3 (by omega); rw [Int.toNat_of_nonneg r0, h3] at this; exact this
  clear hq0 hrn
  have HI := Aside0.mk hI
  have HMAY := Aside0.mk hmay
  have HKP := Aside0.mk hkp
  have h2b : decide (t < at_) = false := decide_eq_false h2
  have h4b : decide (kp < t - at_) = true := decide_eq_true h4
  clear hI hmay hM h3 hkp
  subst hbb
  have v0 : IntKind.i64.wrap (t - at_) = t - at_ := by rw [IntKind.wrap_i64]; omega
  go_enter Try.func36, Try.ntmps36
  go_upto_region 4 with (first | (go_at_call 59; go_loud (refine (rmay_any h lb n f s dl ks ee wd rh sl cp i r t z _ M (IsRf.alloc HI.out _) true HMAY.out).mono ?_; rintro en w1 ⟨rfl, e1⟩; rw [e1]; clear e1)))
  refine wp_gen (fun W => (IsRf z W h lb n f s dl ks ee wd rh sl cp i M) ∧ W.heap[w.heap.size]? = some (.cells #[.int .i64 0, .int .i64 0] 61 (0, 0)) ∧ W.heap[w.heap.size + 1]? = some (.cells #[.bool true, .int .i64 lo, .int .i64 hi, .int .i64 at_] 116 (0, 0)) ∧ Below w.heap.size w W) ⟨(HI.out.alloc _).alloc _, blk_alloc (blk_new _ _) _, by simpa using blk_new (w.alloc (.cells #[.int .i64 0, .int .i64 0] 61)) (.cells #[.bool true, .int .i64 lo, .int .i64 hi, .int .i64 at_] 116 (0, 0)), below_alloc (below_alloc (Below.refl _ _) _) _⟩ ?_
  clear c11 e0 e1 e2 e3
  rintro W ⟨j1, j2, j3, j4⟩
  have fa0 : W.cell? ⟨w.heap.size, 0, none⟩ = some (.int .i64 0) := (blk_cell j2 0).trans rfl; have faf0 : W.frozen? ⟨w.heap.size, 0, none⟩ = false := blk_frozen j2 0; have fa1 : W.cell? ⟨w.heap.size, 1, none⟩ = some (.int .i64 0) := (blk_cell j2 1).trans rfl; have faf1 : W.frozen? ⟨w.heap.size, 1, none⟩ = false := blk_frozen j2 1
  have fk0 : W.cell? ⟨(w.heap.size + 1), 0, none⟩ = some (.bool true) := (blk_cell j3 0).trans rfl; have fkf0 : W.frozen? ⟨(w.heap.size + 1), 0, none⟩ = false := blk_frozen j3 0; have fk1 : W.cell? ⟨(w.heap.size + 1), 1, none⟩ = some (.int .i64 lo) := (blk_cell j3 1).trans rfl; have fkf1 : W.frozen? ⟨(w.heap.size + 1), 1, none⟩ = false := blk_frozen j3 1; have fk2 : W.cell? ⟨(w.heap.size + 1), 2, none⟩ = some (.int .i64 hi) := (blk_cell j3 2).trans rfl; have fkf2 : W.frozen? ⟨(w.heap.size + 1), 2, none⟩ = false := blk_frozen j3 2; have fk3 : W.cell? ⟨(w.heap.size + 1), 3, none⟩ = some (.int .i64 at_) := (blk_cell j3 3).trans rfl; have fkf3 : W.frozen? ⟨(w.heap.size + 1), 3, none⟩ = false := blk_frozen j3 3
  have J1 := Aside0.mk j1
  have FB := Aside0.mk j2
  have J3 := Aside0.mk j3
  have HB := Aside0.mk j4
  clear j1 j2 j3 j4
  have q1 := Aside0.mk (blk_drew FB.out)
  have q2 := Aside0.mk (below_drew HB.out)
  have q3 := Aside0.mk (IsRf.drew J1.out)
  have q4 := Aside0.mk (blk_drew J3.out)
  have d0 : W.cell? ⟨h, 0, none⟩ = some (.int .i64 n) := (blk_cell J1.out.1 0).trans rfl
  have d1 : W.cell? ⟨h, 1, none⟩ = some (.int .i64 f) := (blk_cell J1.out.1 1).trans rfl
  have d2 : W.cell? ⟨h, 2, none⟩ = some (.int .i64 s) := (blk_cell J1.out.1 2).trans rfl
  have d3 : W.cell? ⟨h, 3, none⟩ = some (.int .i64 dl) := (blk_cell J1.out.1 3).trans rfl
  have d4 : W.cell? ⟨h, 4, none⟩ = some (.int .i64 ks) := (blk_cell J1.out.1 4).trans rfl
  have d5 : W.cell? ⟨h, 5, none⟩ = some (.int .i64 ee) := (blk_cell J1.out.1 5).trans rfl
  have d6 : W.cell? ⟨h, 6, none⟩ = some (.int .i64 wd) := (blk_cell J1.out.1 6).trans rfl
  have d7 : W.cell? ⟨h, 7, none⟩ = some (.int .i64 rh) := (blk_cell J1.out.1 7).trans rfl
  have d8 : W.cell? ⟨h, 8, none⟩ = some (.int .i64 sl) := (blk_cell J1.out.1 8).trans rfl
  have d9 : W.cell? ⟨h, 9, none⟩ = some (.int .i64 cp) := (blk_cell J1.out.1 9).trans rfl

  go_region_held3 (fun W => W.cell? ⟨w.heap.size + 1, 0, none⟩ = some (.bool true) ∧ W.cell? ⟨w.heap.size + 1, 3, none⟩ = some (.int .i64 at_) ∧ W.cell? ⟨h, 0, none⟩ = some (.int .i64 n) ∧ W.cell? ⟨h, 1, none⟩ = some (.int .i64 f) ∧ W.cell? ⟨h, 2, none⟩ = some (.int .i64 s) ∧ W.cell? ⟨h, 3, none⟩ = some (.int .i64 dl) ∧ W.cell? ⟨h, 4, none⟩ = some (.int .i64 ks) ∧ W.cell? ⟨h, 5, none⟩ = some (.int .i64 ee) ∧ W.cell? ⟨h, 6, none⟩ = some (.int .i64 wd) ∧ W.cell? ⟨h, 7, none⟩ = some (.int .i64 rh) ∧ W.cell? ⟨h, 8, none⟩ = some (.int .i64 sl) ∧ W.cell? ⟨h, 9, none⟩ = some (.int .i64 cp)) (go_keep) (first | (go_at_call 62; go_loud (refine (carillonref16_Keep.calls n f s dl ks ee wd rh sl cp kp _ HKP.out).mono ?_; rintro en w5 ⟨rfl, hb⟩; have J5 : Aside0 (IsRf z w5 h lb n f s dl ks ee wd rh sl cp i M) := ⟨IsRf.below q3.out hb⟩; have F5 : Aside0 (w5.heap[w.heap.size]? = some (.cells #[.int .i64 0, .int .i64 0] 61 (0, 0))) := ⟨blk_below q1.out hb⟩; have K5 : Aside0 (w5.heap[w.heap.size + 1]? = some (.cells #[.bool true, .int .i64 lo, .int .i64 hi, .int .i64 at_] 116 (0, 0))) := ⟨blk_below q4.out hb⟩; have B5 : Aside0 (Below w.heap.size w w5) := ⟨below_step q2.out hb⟩; have fb0 : w5.cell? ⟨w.heap.size, 0, none⟩ = some (.int .i64 0) := (blk_cell F5.out 0).trans rfl; have fbf0 : w5.frozen? ⟨w.heap.size, 0, none⟩ = false := blk_frozen F5.out 0; have fb1 : w5.cell? ⟨w.heap.size, 1, none⟩ = some (.int .i64 0) := (blk_cell F5.out 1).trans rfl; have fbf1 : w5.frozen? ⟨w.heap.size, 1, none⟩ = false := blk_frozen F5.out 1; have gk0 : w5.cell? ⟨(w.heap.size + 1), 0, none⟩ = some (.bool true) := (blk_cell K5.out 0).trans rfl; have gkf0 : w5.frozen? ⟨(w.heap.size + 1), 0, none⟩ = false := blk_frozen K5.out 0; have gk1 : w5.cell? ⟨(w.heap.size + 1), 1, none⟩ = some (.int .i64 lo) := (blk_cell K5.out 1).trans rfl; have gkf1 : w5.frozen? ⟨(w.heap.size + 1), 1, none⟩ = false := blk_frozen K5.out 1; have gk2 : w5.cell? ⟨(w.heap.size + 1), 2, none⟩ = some (.int .i64 hi) := (blk_cell K5.out 2).trans rfl; have gkf2 : w5.frozen? ⟨(w.heap.size + 1), 2, none⟩ = false := blk_frozen K5.out 2; have gk3 : w5.cell? ⟨(w.heap.size + 1), 3, none⟩ = some (.int .i64 at_) := (blk_cell K5.out 3).trans rfl; have gkf3 : w5.frozen? ⟨(w.heap.size + 1), 3, none⟩ = false := blk_frozen K5.out 3; have g0 : w5.cell? ⟨h, 0, none⟩ = some (.int .i64 n) := (blk_cell J5.out.1 0).trans rfl; have g1 : w5.cell? ⟨h, 1, none⟩ = some (.int .i64 f) := (blk_cell J5.out.1 1).trans rfl; have g2 : w5.cell? ⟨h, 2, none⟩ = some (.int .i64 s) := (blk_cell J5.out.1 2).trans rfl; have g3 : w5.cell? ⟨h, 3, none⟩ = some (.int .i64 dl) := (blk_cell J5.out.1 3).trans rfl; have g4 : w5.cell? ⟨h, 4, none⟩ = some (.int .i64 ks) := (blk_cell J5.out.1 4).trans rfl; have g5 : w5.cell? ⟨h, 5, none⟩ = some (.int .i64 ee) := (blk_cell J5.out.1 5).trans rfl; have g6 : w5.cell? ⟨h, 6, none⟩ = some (.int .i64 wd) := (blk_cell J5.out.1 6).trans rfl; have g7 : w5.cell? ⟨h, 7, none⟩ = some (.int .i64 rh) := (blk_cell J5.out.1 7).trans rfl; have g8 : w5.cell? ⟨h, 8, none⟩ = some (.int .i64 sl) := (blk_cell J5.out.1 8).trans rfl; have g9 : w5.cell? ⟨h, 9, none⟩ = some (.int .i64 cp) := (blk_cell J5.out.1 9).trans rfl; clear hb)))
  have FB := F5
  have HB := B5
  go_wp2
  refine bodyPost_ret (results_ct rfl _ _ _ 61 #[.int .i64 0, .int .i64 0] (0, 0) _ rfl (by (with_reducible repeat (first | exact blk_new _ _ | refine blk_drewN ?_ _ | refine blk_drew ?_ | refine blk_alloc ?_ _)); all_goals (first | exact FB.out | (refine blk_put (cs := #[.int .i64 0, .int .i64 0]) ?_ 1 _ rfl; (with_reducible repeat (first | refine blk_drewN ?_ _ | refine blk_drew ?_ | refine blk_alloc ?_ _)); refine blk_put (cs := #[.int .i64 0, .int .i64 0]) ?_ 0 _ rfl; (with_reducible repeat (first | exact FB.out | refine blk_drewN ?_ _ | refine blk_drew ?_ | refine blk_alloc ?_ _ | exact blk_new _ _))))) Try.underlying61 rfl (by kernel_rfl)) rfl ⟨rfl, by (with_reducible repeat (first | exact Below.refl _ _ | exact HB.out | refine below_alloc ?_ _ | refine pw_below_drewN ?_ _ | refine below_drew1 ?_ | refine below_set ?_ (by first | (simp; omega) | simp | omega)))⟩
end Go.Proofs.Ytfaikkhnlioajaa.Rb
