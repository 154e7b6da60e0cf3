/- When listening ends, unanswered. -/
import Derived.Test.YtiiaooaigeenoaaProg
import Derived.Below
import Derived.Deep.Draws
import Derived.Deep.AppendLies
import Derived.Maps.AppendAt
import Derived.OwnWalk
import Derived.Laws.BytesArg
import Derived.Laws.MakeOwn
import Derived.Laws.OwnMore
import Derived.Deep.OwnRows
import Derived.Tactics
import Derived.Lib.ConvBytes
import Derived.Laws.Slices
import Derived.WalkKit
import Derived.KernelRfl
import Derived.RowKit3
import Derived.Deep.LoopGhost
import Derived.Deep.QuietTactic
import Derived.BigQuiet
import Derived.WideLaws
import Derived.Deep.DeepCutAuto
import Derived.Deep.CutBlock
import Derived.Deep.RegionHeld3
import Derived.Laws.Rows
import Derived.Lib.AppendStr
import Derived.ArgAppend
import Derived.Laws.IdiomCopy
import Derived.OrdersHeld
import Derived.Laws.BitsLemmas
import Derived.RowKit
import Derived.RegionTactic
import Derived.ChangeAlike
import Derived.Outline
import Derived.LoopTactic
import Derived.WalkSpells
import Derived.WalkLawsBesides
import Derived.Lib.Hide
import Derived.StillTailTactics
import Derived.Deep.RegionWith
import Derived.Deep.RegionLaw
import Derived.Deep.DeepFit
import Derived.Deep.DeepMust
import Derived.Test.YtiiaooaigeenoaaWWords
import Derived.Test.YtiiaooaigeenoaaWLast
import Derived.Test.YtiiaooaigeenoaaWTab
import Derived.Test.YtiiaooaigeenoaaWFour
import Derived.Test.YtiiaooaigeenoaaWQPut
import Derived.Test.YtiiaooaigeenoaaWApart
import Derived.Test.YtiiaooaigeenoaaWArr
import Derived.Test.YtiiaooaigeenoaaWZeros
import Derived.Test.YtiiaooaigeenoaaWFoot
import Derived.Test.YtiiaooaigeenoaaWKept
import Derived.Test.YtiiaooaigeenoaaWShare
import Derived.Test.YtiiaooaigeenoaaWN
import Derived.Test.YtiiaooaigeenoaaWFootNe
import Derived.Test.YtiiaooaigeenoaaWAt
import Derived.Test.YtiiaooaigeenoaaWEqStruct
import Derived.Test.YtiiaooaigeenoaaWRepsOne
import Derived.Test.YtiiaooaigeenoaaWInv
import Derived.Test.YtiiaooaigeenoaaWInvWords
import Derived.Test.YtiiaooaigeenoaaWGuard
import Derived.Test.YtiiaooaigeenoaaWNEv
import Derived.Test.YtiiaooaigeenoaaWMore
import Derived.Test.YtiiaooaigeenoaaMode2
namespace Go.Proofs.Ytiiaooaigeenoaa.Mode6
open Go.RowKit Go.Proofs.YtiiaooaigeenoaaW.PrintWords Go.Proofs.YtiiaooaigeenoaaW.PrintLast Go.Proofs.YtiiaooaigeenoaaW.PrintMore 
attribute [local go_sem] max2_int min2_int max_two min_two max_three min_three max_four min_four
set_option linter.unusedVariables false
set_option linter.unusedSimpArgs false
open Go.Proofs.Ytiiaooaigeenoaa.QBase Go.Proofs.Ytiiaooaigeenoaa.Sch Go.Proofs.Ytiiaooaigeenoaa.Mode1 Go.Proofs.Ytiiaooaigeenoaa.Mode2
set_option maxRecDepth 100000 in
set_option maxHeartbeats 4000000 in
theorem listen_far_yes (g : Nat) (n f s dl ks ee wd rh sl cp i id qu : Int) (an : Bool) (z w : World) (hI : IsS43 z w g n f s dl ks ee wd rh sl cp i 1 id true) (hB : Below z.heap.size z w) (hk : Ok n f s dl ks ee wd rh sl cp) (i0 : 0 ≤ i) (i1 : i < n) (h : 0 ≤ qu) (h1 : qu ≤ 9223372036854775807) (h2 : qt n s wd rh sl ≤ qu) (ha : an = false) (hd : (i + 1) * (n * s) ≤ qu - qt n s wd rh sl) : Calls Try.prog 17 #[.pointer (some ⟨g, 0, none⟩), .int .i64 qu, .bool an] w fun en w' => en = .returned (.bool true) ∧ IsS43 z w' g n f s dl ks ee wd rh sl cp i 1 id true ∧ Below z.heap.size z w' ∧ KeepBut w w' g none := by
  have c0 : w.cell? ⟨g, 0, none⟩ = some (.int .i64 n) := (blk_cell hI.1 0).trans rfl
  have c1 : w.cell? ⟨g, 1, none⟩ = some (.int .i64 f) := (blk_cell hI.1 1).trans rfl
  have c2 : w.cell? ⟨g, 2, none⟩ = some (.int .i64 s) := (blk_cell hI.1 2).trans rfl
  have c3 : w.cell? ⟨g, 3, none⟩ = some (.int .i64 dl) := (blk_cell hI.1 3).trans rfl
  have c4 : w.cell? ⟨g, 4, none⟩ = some (.int .i64 ks) := (blk_cell hI.1 4).trans rfl
  have c5 : w.cell? ⟨g, 5, none⟩ = some (.int .i64 ee) := (blk_cell hI.1 5).trans rfl
  have c6 : w.cell? ⟨g, 6, none⟩ = some (.int .i64 wd) := (blk_cell hI.1 6).trans rfl
  have c7 : w.cell? ⟨g, 7, none⟩ = some (.int .i64 rh) := (blk_cell hI.1 7).trans rfl
  have c8 : w.cell? ⟨g, 8, none⟩ = some (.int .i64 sl) := (blk_cell hI.1 8).trans rfl
  have c9 : w.cell? ⟨g, 9, none⟩ = some (.int .i64 cp) := (blk_cell hI.1 9).trans rfl
  have c10 : w.cell? ⟨g, 10, none⟩ = some (.int .i64 i) := (blk_cell hI.1 10).trans rfl
  have c11 : w.cell? ⟨g, 11, none⟩ = some (.int .i64 1) := (blk_cell hI.1 11).trans rfl
  have c12 : w.cell? ⟨g, 12, none⟩ = some (.int .i64 id) := (blk_cell hI.1 12).trans rfl
  have c13 : w.cell? ⟨g, 13, none⟩ = some (.bool true) := (blk_cell hI.1 13).trans rfl
  have HI := Aside0.mk hI
  have HB := Aside0.mk hB
  have hqb : 200 ≤ qt n s wd rh sl ∧ qt n s wd rh sl ≤ 1000000000 := by
    have hk2 := hk
    unfold Ok at hk2
    have hq := qt_bd n s wd rh sl (by omega) (by omega) (by omega) (by omega) (by omega) (by omega) (by omega) (by omega) (by omega) (by omega)
    have hr := rnd_bd n s (by omega) (by omega) (by omega) (by omega)
    omega
  obtain ⟨hq0, hq1⟩ := hqb
  have hq := quiet_in 0 n f s dl ks ee wd rh sl cp hk
  obtain ⟨q, hqe⟩ : ∃ q, qt n s wd rh sl = q := ⟨_, rfl⟩
  rw [hqe] at hq hq0 hq1
  have HQ := Aside0.mk hq
  clear hq
  rw [hqe] at h2
  rw [hqe] at hd
  subst ha
  have hrd := round_in 0 n f s dl ks ee wd rh sl cp hk
  have hrb : 300 ≤ n * s ∧ n * s ≤ 80000 ∧ n ≤ 8 := by
    have hk2 := hk
    unfold Ok at hk2
    have hr := rnd_bd n s (by omega) (by omega) (by omega) (by omega)
    omega
  obtain ⟨r, hre⟩ : ∃ r, n * s = r := ⟨_, rfl⟩
  rw [hre] at hrd hrb hd
  have HR := Aside0.mk hrd
  have hpb : 0 ≤ (i + 1) * r ∧ (i + 1) * r ≤ 640000 := by
    have a := Int.mul_nonneg (show 0 ≤ i + 1 by omega) (show 0 ≤ r by omega)
    have b := Int.mul_le_mul (show i + 1 ≤ 8 by omega) (show r ≤ 80000 by omega) (by omega) (by omega)
    omega
  obtain ⟨pr, hpr⟩ : ∃ pr, (i + 1) * r = pr := ⟨_, rfl⟩
  rw [hpr] at hpb hd
  have v1 : IntKind.i64.wrap (i + 1) = i + 1 := by rw [IntKind.wrap_i64]; omega
  have v2 : IntKind.i64.wrap ((i + 1) * r) = pr := by rw [hpr, IntKind.wrap_i64]; omega
  have v3 : decide (pr ≤ qu - q) = true := decide_eq_true hd
  have V := And.intro v1 v2
  have V := Aside0.mk V
  clear hI hB hqe hre hk hrd v1 v2 hpr hd
  go_enter Try.func17, Try.ntmps17
  go_upto_region 8 with (first | (go_at_call 25; go_loud (refine (none_ok g n f s dl ks ee wd rh sl cp i 1 id z w HI.out HB.out).mono ?_; rintro en w1 ⟨rfl, e1⟩; rw [e1]; clear e1)) | (go_at_call 31; go_loud (refine (sched_Quiet.calls 3 n f s dl ks ee wd rh sl cp q _ HQ.out).mono ?_; rintro en w2 ⟨rfl, hb⟩; have e1 : Aside0 (IsS43 z w2 g n f s dl ks ee wd rh sl cp i 1 id true) := ⟨blk_below HI.out.1 hb, HI.out.2⟩; have e2 := Aside0.mk (below_step HB.out hb); have e3 := Aside0.mk (KeepBut.of_below hb g none); clear hb; have k0 : w2.cell? ⟨g, 0, none⟩ = some (.int .i64 n) := (blk_cell e1.out.1 0).trans rfl; have k1 : w2.cell? ⟨g, 1, none⟩ = some (.int .i64 f) := (blk_cell e1.out.1 1).trans rfl; have k2 : w2.cell? ⟨g, 2, none⟩ = some (.int .i64 s) := (blk_cell e1.out.1 2).trans rfl; have k3 : w2.cell? ⟨g, 3, none⟩ = some (.int .i64 dl) := (blk_cell e1.out.1 3).trans rfl; have k4 : w2.cell? ⟨g, 4, none⟩ = some (.int .i64 ks) := (blk_cell e1.out.1 4).trans rfl; have k5 : w2.cell? ⟨g, 5, none⟩ = some (.int .i64 ee) := (blk_cell e1.out.1 5).trans rfl; have k6 : w2.cell? ⟨g, 6, none⟩ = some (.int .i64 wd) := (blk_cell e1.out.1 6).trans rfl; have k7 : w2.cell? ⟨g, 7, none⟩ = some (.int .i64 rh) := (blk_cell e1.out.1 7).trans rfl; have k8 : w2.cell? ⟨g, 8, none⟩ = some (.int .i64 sl) := (blk_cell e1.out.1 8).trans rfl; have k9 : w2.cell? ⟨g, 9, none⟩ = some (.int .i64 cp) := (blk_cell e1.out.1 9).trans rfl; have k10 : w2.cell? ⟨g, 10, none⟩ = some (.int .i64 i) := (blk_cell e1.out.1 10).trans rfl)))
  have q1 := Aside0.mk (IsS43.drew e1.out)
  have q2 := Aside0.mk (below_drew e2.out)
  have q3 := Aside0.mk (show KeepBut w w2.drew g none from e3.out)
  have v1 := V.out.1
  have v2 := V.out.2
  go_region_held3 (fun W => W.cell? ⟨g, 0, none⟩ = some (.int .i64 n) ∧ W.cell? ⟨g, 1, none⟩ = some (.int .i64 f) ∧ W.cell? ⟨g, 2, none⟩ = some (.int .i64 s) ∧ W.cell? ⟨g, 3, none⟩ = some (.int .i64 dl) ∧ W.cell? ⟨g, 4, none⟩ = some (.int .i64 ks) ∧ W.cell? ⟨g, 5, none⟩ = some (.int .i64 ee) ∧ W.cell? ⟨g, 6, none⟩ = some (.int .i64 wd) ∧ W.cell? ⟨g, 7, none⟩ = some (.int .i64 rh) ∧ W.cell? ⟨g, 8, none⟩ = some (.int .i64 sl) ∧ W.cell? ⟨g, 9, none⟩ = some (.int .i64 cp) ∧ W.cell? ⟨g, 10, none⟩ = some (.int .i64 i) ∧ Aside0 (IsS43 z W g n f s dl ks ee wd rh sl cp i 1 id true) ∧ Aside0 (Below z.heap.size z W) ∧ Aside0 (KeepBut w W g none)) (go_keep) (first | (go_at_call 32; go_loud (refine (sched_Round.calls 3 n f s dl ks ee wd rh sl cp r _ HR.out).mono ?_; rintro e w3 ⟨rfl, hb⟩; have e4 : Aside0 (IsS43 z w3 g n f s dl ks ee wd rh sl cp i 1 id true) := ⟨blk_below q1.out.1 hb, q1.out.2⟩; have e5 := Aside0.mk (below_step q2.out hb); have e6 := Aside0.mk (q3.out.trans (KeepBut.of_below hb g none) (Or.inl rfl)); have m0 : w3.cell? ⟨g, 0, none⟩ = some (.int .i64 n) := (blk_cell e4.out.1 0).trans rfl; have m1 : w3.cell? ⟨g, 1, none⟩ = some (.int .i64 f) := (blk_cell e4.out.1 1).trans rfl; have m2 : w3.cell? ⟨g, 2, none⟩ = some (.int .i64 s) := (blk_cell e4.out.1 2).trans rfl; have m3 : w3.cell? ⟨g, 3, none⟩ = some (.int .i64 dl) := (blk_cell e4.out.1 3).trans rfl; have m4 : w3.cell? ⟨g, 4, none⟩ = some (.int .i64 ks) := (blk_cell e4.out.1 4).trans rfl; have m5 : w3.cell? ⟨g, 5, none⟩ = some (.int .i64 ee) := (blk_cell e4.out.1 5).trans rfl; have m6 : w3.cell? ⟨g, 6, none⟩ = some (.int .i64 wd) := (blk_cell e4.out.1 6).trans rfl; have m7 : w3.cell? ⟨g, 7, none⟩ = some (.int .i64 rh) := (blk_cell e4.out.1 7).trans rfl; have m8 : w3.cell? ⟨g, 8, none⟩ = some (.int .i64 sl) := (blk_cell e4.out.1 8).trans rfl; have m9 : w3.cell? ⟨g, 9, none⟩ = some (.int .i64 cp) := (blk_cell e4.out.1 9).trans rfl; have m10 : w3.cell? ⟨g, 10, none⟩ = some (.int .i64 i) := (blk_cell e4.out.1 10).trans rfl; clear hb)))
  go_wp2
  go_ret
  exact ⟨rfl, e4.out, e5.out, e6.out⟩
set_option maxRecDepth 100000 in
set_option maxHeartbeats 4000000 in
theorem listen_far_no (g : Nat) (n f s dl ks ee wd rh sl cp i id qu : Int) (an : Bool) (z w : World) (hI : IsS43 z w g n f s dl ks ee wd rh sl cp i 1 id true) (hB : Below z.heap.size z w) (hk : Ok n f s dl ks ee wd rh sl cp) (i0 : 0 ≤ i) (i1 : i < n) (h : 0 ≤ qu) (h1 : qu ≤ 9223372036854775807) (h2 : qt n s wd rh sl ≤ qu) (ha : an = false) (hd : ¬ (i + 1) * (n * s) ≤ qu - qt n s wd rh sl) : Calls Try.prog 17 #[.pointer (some ⟨g, 0, none⟩), .int .i64 qu, .bool an] w fun en w' => en = .returned (.bool false) ∧ IsS43 z w' g n f s dl ks ee wd rh sl cp i 1 id true ∧ Below z.heap.size z w' ∧ KeepBut w w' g none := by
  have c0 : w.cell? ⟨g, 0, none⟩ = some (.int .i64 n) := (blk_cell hI.1 0).trans rfl
  have c1 : w.cell? ⟨g, 1, none⟩ = some (.int .i64 f) := (blk_cell hI.1 1).trans rfl
  have c2 : w.cell? ⟨g, 2, none⟩ = some (.int .i64 s) := (blk_cell hI.1 2).trans rfl
  have c3 : w.cell? ⟨g, 3, none⟩ = some (.int .i64 dl) := (blk_cell hI.1 3).trans rfl
  have c4 : w.cell? ⟨g, 4, none⟩ = some (.int .i64 ks) := (blk_cell hI.1 4).trans rfl
  have c5 : w.cell? ⟨g, 5, none⟩ = some (.int .i64 ee) := (blk_cell hI.1 5).trans rfl
  have c6 : w.cell? ⟨g, 6, none⟩ = some (.int .i64 wd) := (blk_cell hI.1 6).trans rfl
  have c7 : w.cell? ⟨g, 7, none⟩ = some (.int .i64 rh) := (blk_cell hI.1 7).trans rfl
  have c8 : w.cell? ⟨g, 8, none⟩ = some (.int .i64 sl) := (blk_cell hI.1 8).trans rfl
  have c9 : w.cell? ⟨g, 9, none⟩ = some (.int .i64 cp) := (blk_cell hI.1 9).trans rfl
  have c10 : w.cell? ⟨g, 10, none⟩ = some (.int .i64 i) := (blk_cell hI.1 10).trans rfl
  have c11 : w.cell? ⟨g, 11, none⟩ = some (.int .i64 1) := (blk_cell hI.1 11).trans rfl
  have c12 : w.cell? ⟨g, 12, none⟩ = some (.int .i64 id) := (blk_cell hI.1 12).trans rfl
  have c13 : w.cell? ⟨g, 13, none⟩ = some (.bool true) := (blk_cell hI.1 13).trans rfl
  have HI := Aside0.mk hI
  have HB := Aside0.mk hB
  have hqb : 200 ≤ qt n s wd rh sl ∧ qt n s wd rh sl ≤ 1000000000 := by
    have hk2 := hk
    unfold Ok at hk2
    have hq := qt_bd n s wd rh sl (by omega) (by omega) (by omega) (by omega) (by omega) (by omega) (by omega) (by omega) (by omega) (by omega)
    have hr := rnd_bd n s (by omega) (by omega) (by omega) (by omega)
    omega
  obtain ⟨hq0, hq1⟩ := hqb
  have hq := quiet_in 0 n f s dl ks ee wd rh sl cp hk
  obtain ⟨q, hqe⟩ : ∃ q, qt n s wd rh sl = q := ⟨_, rfl⟩
  rw [hqe] at hq hq0 hq1
  have HQ := Aside0.mk hq
  clear hq
  rw [hqe] at h2
  rw [hqe] at hd
  subst ha
  have hrd := round_in 0 n f s dl ks ee wd rh sl cp hk
  have hrb : 300 ≤ n * s ∧ n * s ≤ 80000 ∧ n ≤ 8 := by
    have hk2 := hk
    unfold Ok at hk2
    have hr := rnd_bd n s (by omega) (by omega) (by omega) (by omega)
    omega
  obtain ⟨r, hre⟩ : ∃ r, n * s = r := ⟨_, rfl⟩
  rw [hre] at hrd hrb hd
  have HR := Aside0.mk hrd
  have hpb : 0 ≤ (i + 1) * r ∧ (i + 1) * r ≤ 640000 := by
    have a := Int.mul_nonneg (show 0 ≤ i + 1 by omega) (show 0 ≤ r by omega)
    have b := Int.mul_le_mul (show i + 1 ≤ 8 by omega) (show r ≤ 80000 by omega) (by omega) (by omega)
    omega
  obtain ⟨pr, hpr⟩ : ∃ pr, (i + 1) * r = pr := ⟨_, rfl⟩
  rw [hpr] at hpb hd
  have v1 : IntKind.i64.wrap (i + 1) = i + 1 := by rw [IntKind.wrap_i64]; omega
  have v2 : IntKind.i64.wrap ((i + 1) * r) = pr := by rw [hpr, IntKind.wrap_i64]; omega
  have v3 : decide (pr ≤ qu - q) = false := decide_eq_false hd
  have V := And.intro v1 v2
  have V := Aside0.mk V
  clear hI hB hqe hre hk hrd v1 v2 hpr hd
  go_enter Try.func17, Try.ntmps17
  go_upto_region 8 with (first | (go_at_call 25; go_loud (refine (none_ok g n f s dl ks ee wd rh sl cp i 1 id z w HI.out HB.out).mono ?_; rintro en w1 ⟨rfl, e1⟩; rw [e1]; clear e1)) | (go_at_call 31; go_loud (refine (sched_Quiet.calls 3 n f s dl ks ee wd rh sl cp q _ HQ.out).mono ?_; rintro en w2 ⟨rfl, hb⟩; have e1 : Aside0 (IsS43 z w2 g n f s dl ks ee wd rh sl cp i 1 id true) := ⟨blk_below HI.out.1 hb, HI.out.2⟩; have e2 := Aside0.mk (below_step HB.out hb); have e3 := Aside0.mk (KeepBut.of_below hb g none); clear hb; have k0 : w2.cell? ⟨g, 0, none⟩ = some (.int .i64 n) := (blk_cell e1.out.1 0).trans rfl; have k1 : w2.cell? ⟨g, 1, none⟩ = some (.int .i64 f) := (blk_cell e1.out.1 1).trans rfl; have k2 : w2.cell? ⟨g, 2, none⟩ = some (.int .i64 s) := (blk_cell e1.out.1 2).trans rfl; have k3 : w2.cell? ⟨g, 3, none⟩ = some (.int .i64 dl) := (blk_cell e1.out.1 3).trans rfl; have k4 : w2.cell? ⟨g, 4, none⟩ = some (.int .i64 ks) := (blk_cell e1.out.1 4).trans rfl; have k5 : w2.cell? ⟨g, 5, none⟩ = some (.int .i64 ee) := (blk_cell e1.out.1 5).trans rfl; have k6 : w2.cell? ⟨g, 6, none⟩ = some (.int .i64 wd) := (blk_cell e1.out.1 6).trans rfl; have k7 : w2.cell? ⟨g, 7, none⟩ = some (.int .i64 rh) := (blk_cell e1.out.1 7).trans rfl; have k8 : w2.cell? ⟨g, 8, none⟩ = some (.int .i64 sl) := (blk_cell e1.out.1 8).trans rfl; have k9 : w2.cell? ⟨g, 9, none⟩ = some (.int .i64 cp) := (blk_cell e1.out.1 9).trans rfl; have k10 : w2.cell? ⟨g, 10, none⟩ = some (.int .i64 i) := (blk_cell e1.out.1 10).trans rfl)))
  have q1 := Aside0.mk (IsS43.drew e1.out)
  have q2 := Aside0.mk (below_drew e2.out)
  have q3 := Aside0.mk (show KeepBut w w2.drew g none from e3.out)
  have v1 := V.out.1
  have v2 := V.out.2
  go_region_held3 (fun W => W.cell? ⟨g, 0, none⟩ = some (.int .i64 n) ∧ W.cell? ⟨g, 1, none⟩ = some (.int .i64 f) ∧ W.cell? ⟨g, 2, none⟩ = some (.int .i64 s) ∧ W.cell? ⟨g, 3, none⟩ = some (.int .i64 dl) ∧ W.cell? ⟨g, 4, none⟩ = some (.int .i64 ks) ∧ W.cell? ⟨g, 5, none⟩ = some (.int .i64 ee) ∧ W.cell? ⟨g, 6, none⟩ = some (.int .i64 wd) ∧ W.cell? ⟨g, 7, none⟩ = some (.int .i64 rh) ∧ W.cell? ⟨g, 8, none⟩ = some (.int .i64 sl) ∧ W.cell? ⟨g, 9, none⟩ = some (.int .i64 cp) ∧ W.cell? ⟨g, 10, none⟩ = some (.int .i64 i) ∧ Aside0 (IsS43 z W g n f s dl ks ee wd rh sl cp i 1 id true) ∧ Aside0 (Below z.heap.size z W) ∧ Aside0 (KeepBut w W g none)) (go_keep) (first | (go_at_call 32; go_loud (refine (sched_Round.calls 3 n f s dl ks ee wd rh sl cp r _ HR.out).mono ?_; rintro e w3 ⟨rfl, hb⟩; have e4 : Aside0 (IsS43 z w3 g n f s dl ks ee wd rh sl cp i 1 id true) := ⟨blk_below q1.out.1 hb, q1.out.2⟩; have e5 := Aside0.mk (below_step q2.out hb); have e6 := Aside0.mk (q3.out.trans (KeepBut.of_below hb g none) (Or.inl rfl)); have m0 : w3.cell? ⟨g, 0, none⟩ = some (.int .i64 n) := (blk_cell e4.out.1 0).trans rfl; have m1 : w3.cell? ⟨g, 1, none⟩ = some (.int .i64 f) := (blk_cell e4.out.1 1).trans rfl; have m2 : w3.cell? ⟨g, 2, none⟩ = some (.int .i64 s) := (blk_cell e4.out.1 2).trans rfl; have m3 : w3.cell? ⟨g, 3, none⟩ = some (.int .i64 dl) := (blk_cell e4.out.1 3).trans rfl; have m4 : w3.cell? ⟨g, 4, none⟩ = some (.int .i64 ks) := (blk_cell e4.out.1 4).trans rfl; have m5 : w3.cell? ⟨g, 5, none⟩ = some (.int .i64 ee) := (blk_cell e4.out.1 5).trans rfl; have m6 : w3.cell? ⟨g, 6, none⟩ = some (.int .i64 wd) := (blk_cell e4.out.1 6).trans rfl; have m7 : w3.cell? ⟨g, 7, none⟩ = some (.int .i64 rh) := (blk_cell e4.out.1 7).trans rfl; have m8 : w3.cell? ⟨g, 8, none⟩ = some (.int .i64 sl) := (blk_cell e4.out.1 8).trans rfl; have m9 : w3.cell? ⟨g, 9, none⟩ = some (.int .i64 cp) := (blk_cell e4.out.1 9).trans rfl; have m10 : w3.cell? ⟨g, 10, none⟩ = some (.int .i64 i) := (blk_cell e4.out.1 10).trans rfl; clear hb)))
  go_wp2
  go_ret
  exact ⟨rfl, e4.out, e5.out, e6.out⟩
end Go.Proofs.Ytiiaooaigeenoaa.Mode6
