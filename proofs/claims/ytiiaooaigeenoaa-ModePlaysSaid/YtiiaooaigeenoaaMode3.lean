/- What the other methods of a machine come to. -/
import Derived.Test.YtiiaooaigeenoaaProg
import Derived.Below
import Derived.Deep.Draws
import Derived.Deep.AppendLies
import Derived.Maps.AppendAt
import Derived.OwnWalk
import Derived.Laws.BytesArg
import Derived.Laws.MakeOwn
import Derived.Laws.OwnMore
import Derived.Deep.OwnRows
import Derived.Tactics
import Derived.Lib.ConvBytes
import Derived.Laws.Slices
import Derived.WalkKit
import Derived.KernelRfl
import Derived.RowKit3
import Derived.Deep.LoopGhost
import Derived.Deep.QuietTactic
import Derived.BigQuiet
import Derived.WideLaws
import Derived.Deep.DeepCutAuto
import Derived.Deep.CutBlock
import Derived.Deep.RegionHeld3
import Derived.Laws.Rows
import Derived.Lib.AppendStr
import Derived.ArgAppend
import Derived.Laws.IdiomCopy
import Derived.OrdersHeld
import Derived.Laws.BitsLemmas
import Derived.RowKit
import Derived.RegionTactic
import Derived.ChangeAlike
import Derived.Outline
import Derived.LoopTactic
import Derived.WalkSpells
import Derived.WalkLawsBesides
import Derived.Lib.Hide
import Derived.StillTailTactics
import Derived.Deep.RegionWith
import Derived.Deep.RegionLaw
import Derived.Deep.DeepFit
import Derived.Deep.DeepMust
import Derived.Test.YtiiaooaigeenoaaWWords
import Derived.Test.YtiiaooaigeenoaaWLast
import Derived.Test.YtiiaooaigeenoaaWTab
import Derived.Test.YtiiaooaigeenoaaWFour
import Derived.Test.YtiiaooaigeenoaaWQPut
import Derived.Test.YtiiaooaigeenoaaWApart
import Derived.Test.YtiiaooaigeenoaaWArr
import Derived.Test.YtiiaooaigeenoaaWZeros
import Derived.Test.YtiiaooaigeenoaaWFoot
import Derived.Test.YtiiaooaigeenoaaWKept
import Derived.Test.YtiiaooaigeenoaaWShare
import Derived.Test.YtiiaooaigeenoaaWN
import Derived.Test.YtiiaooaigeenoaaWFootNe
import Derived.Test.YtiiaooaigeenoaaWAt
import Derived.Test.YtiiaooaigeenoaaWEqStruct
import Derived.Test.YtiiaooaigeenoaaWRepsOne
import Derived.Test.YtiiaooaigeenoaaWInv
import Derived.Test.YtiiaooaigeenoaaWInvWords
import Derived.Test.YtiiaooaigeenoaaWGuard
import Derived.Test.YtiiaooaigeenoaaWNEv
import Derived.Test.YtiiaooaigeenoaaWMore
import Derived.Test.YtiiaooaigeenoaaMode2
namespace Go.Proofs.Ytiiaooaigeenoaa.Mode3
open Go.RowKit Go.Proofs.YtiiaooaigeenoaaW.PrintWords Go.Proofs.YtiiaooaigeenoaaW.PrintLast Go.Proofs.YtiiaooaigeenoaaW.PrintMore 
attribute [local go_sem] max2_int min2_int max_two min_two max_three min_three max_four min_four
set_option linter.unusedVariables false
set_option linter.unusedSimpArgs false
open Go.Proofs.Ytiiaooaigeenoaa.QBase Go.Proofs.Ytiiaooaigeenoaa.Sch Go.Proofs.Ytiiaooaigeenoaa.Mode1 Go.Proofs.Ytiiaooaigeenoaa.Mode2
set_option maxRecDepth 100000 in
set_option maxHeartbeats 4000000 in
theorem stop_ok (g : Nat) (n f s dl ks ee wd rh sl cp i md id : Int) (z w : World) (hI : IsS43 z w g n f s dl ks ee wd rh sl cp i md id true) (hB : Below z.heap.size z w) : Calls Try.prog 16 #[.pointer (some ⟨g, 0, none⟩)] w fun en w' => en = .returned (.int .i64 0) ∧ IsS43 z w' g n f s dl ks ee wd rh sl cp i 0 id true ∧ Below z.heap.size z w' ∧ KeepBut w w' g none := by
  have c11 : w.cell? ⟨g, 11, none⟩ = some (.int .i64 md) := (blk_cell hI.1 11).trans rfl
  have c13 : w.cell? ⟨g, 13, none⟩ = some (.bool true) := (blk_cell hI.1 13).trans rfl
  have fz11 : w.frozen? ⟨g, 11, none⟩ = false := blk_frozen hI.1 11
  have HI := Aside0.mk hI
  have HB := Aside0.mk hB
  clear hI hB
  go_enter Try.func16, Try.ntmps16
  go_wp2
  go_ret
  exact ⟨rfl, IsS43.set_11 HI.out _, HB.out.setCell HI.out.2 _, (KeepBut.refl _ _ _).set_ _ _⟩
set_option maxRecDepth 100000 in
set_option maxHeartbeats 4000000 in
theorem set_low (g : Nat) (n f s dl ks ee wd rh sl cp i md id r : Int) (z w : World) (hI : IsS43 z w g n f s dl ks ee wd rh sl cp i md id true) (hB : Below z.heap.size z w) (h : r < 0) : Calls Try.prog 10 #[.pointer (some ⟨g, 0, none⟩), .int .i64 r] w fun en w' => en = .returned (.int .i64 1) ∧ IsS43 z w' g n f s dl ks ee wd rh sl cp i md id true ∧ Below z.heap.size z w' ∧ KeepBut w w' g none := by
  have c11 : w.cell? ⟨g, 11, none⟩ = some (.int .i64 md) := (blk_cell hI.1 11).trans rfl
  have c12 : w.cell? ⟨g, 12, none⟩ = some (.int .i64 id) := (blk_cell hI.1 12).trans rfl
  have c13 : w.cell? ⟨g, 13, none⟩ = some (.bool true) := (blk_cell hI.1 13).trans rfl
  have fz11 : w.frozen? ⟨g, 11, none⟩ = false := blk_frozen hI.1 11
  have fz12 : w.frozen? ⟨g, 12, none⟩ = false := blk_frozen hI.1 12
  have HI := Aside0.mk hI
  have HB := Aside0.mk hB
  clear hI hB
  go_enter Try.func10, Try.ntmps10
  go_wp2
  go_ret
  exact ⟨rfl, HI.out, HB.out, KeepBut.refl _ _ _⟩
set_option maxRecDepth 100000 in
set_option maxHeartbeats 4000000 in
theorem set_high (g : Nat) (n f s dl ks ee wd rh sl cp i md id r : Int) (z w : World) (hI : IsS43 z w g n f s dl ks ee wd rh sl cp i md id true) (hB : Below z.heap.size z w) (h : 1048576 ≤ r) : Calls Try.prog 10 #[.pointer (some ⟨g, 0, none⟩), .int .i64 r] w fun en w' => en = .returned (.int .i64 1) ∧ IsS43 z w' g n f s dl ks ee wd rh sl cp i md id true ∧ Below z.heap.size z w' ∧ KeepBut w w' g none := by
  have c11 : w.cell? ⟨g, 11, none⟩ = some (.int .i64 md) := (blk_cell hI.1 11).trans rfl
  have c12 : w.cell? ⟨g, 12, none⟩ = some (.int .i64 id) := (blk_cell hI.1 12).trans rfl
  have c13 : w.cell? ⟨g, 13, none⟩ = some (.bool true) := (blk_cell hI.1 13).trans rfl
  have fz11 : w.frozen? ⟨g, 11, none⟩ = false := blk_frozen hI.1 11
  have fz12 : w.frozen? ⟨g, 12, none⟩ = false := blk_frozen hI.1 12
  have HI := Aside0.mk hI
  have HB := Aside0.mk hB
  clear hI hB
  go_enter Try.func10, Try.ntmps10
  go_wp2
  go_ret
  exact ⟨rfl, HI.out, HB.out, KeepBut.refl _ _ _⟩
set_option maxRecDepth 100000 in
set_option maxHeartbeats 4000000 in
theorem set_no (g : Nat) (n f s dl ks ee wd rh sl cp i md id r : Int) (z w : World) (hI : IsS43 z w g n f s dl ks ee wd rh sl cp i md id true) (hB : Below z.heap.size z w) (h0 : 0 ≤ r) (h1 : r < 1048576) (hm : md ≠ 1) : Calls Try.prog 10 #[.pointer (some ⟨g, 0, none⟩), .int .i64 r] w fun en w' => en = .returned (.int .i64 0) ∧ IsS43 z w' g n f s dl ks ee wd rh sl cp i md id true ∧ Below z.heap.size z w' ∧ KeepBut w w' g none := by
  have c11 : w.cell? ⟨g, 11, none⟩ = some (.int .i64 md) := (blk_cell hI.1 11).trans rfl
  have c12 : w.cell? ⟨g, 12, none⟩ = some (.int .i64 id) := (blk_cell hI.1 12).trans rfl
  have c13 : w.cell? ⟨g, 13, none⟩ = some (.bool true) := (blk_cell hI.1 13).trans rfl
  have fz11 : w.frozen? ⟨g, 11, none⟩ = false := blk_frozen hI.1 11
  have fz12 : w.frozen? ⟨g, 12, none⟩ = false := blk_frozen hI.1 12
  have HI := Aside0.mk hI
  have HB := Aside0.mk hB
  have hmb : (md == 1) = false := beq_eq_false_iff_ne.2 hm
  clear hm
  clear hI hB
  go_enter Try.func10, Try.ntmps10
  go_wp2
  go_ret
  exact ⟨rfl, HI.out, HB.out, KeepBut.refl _ _ _⟩
set_option maxRecDepth 100000 in
set_option maxHeartbeats 4000000 in
theorem set_yes (g : Nat) (n f s dl ks ee wd rh sl cp i md id r : Int) (z w : World) (hI : IsS43 z w g n f s dl ks ee wd rh sl cp i md id true) (hB : Below z.heap.size z w) (h0 : 0 ≤ r) (h1 : r < 1048576) (hm : md = 1) : Calls Try.prog 10 #[.pointer (some ⟨g, 0, none⟩), .int .i64 r] w fun en w' => en = .returned (.int .i64 0) ∧ IsS43 z w' g n f s dl ks ee wd rh sl cp i 2 0 true ∧ Below z.heap.size z w' ∧ KeepBut w w' g none := by
  have c11 : w.cell? ⟨g, 11, none⟩ = some (.int .i64 md) := (blk_cell hI.1 11).trans rfl
  have c12 : w.cell? ⟨g, 12, none⟩ = some (.int .i64 id) := (blk_cell hI.1 12).trans rfl
  have c13 : w.cell? ⟨g, 13, none⟩ = some (.bool true) := (blk_cell hI.1 13).trans rfl
  have fz11 : w.frozen? ⟨g, 11, none⟩ = false := blk_frozen hI.1 11
  have fz12 : w.frozen? ⟨g, 12, none⟩ = false := blk_frozen hI.1 12
  have HI := Aside0.mk hI
  have HB := Aside0.mk hB
  have hmb : (md == 1) = true := beq_iff_eq.2 hm
  clear hm
  clear hI hB
  go_enter Try.func10, Try.ntmps10
  go_wp2
  go_ret
  exact ⟨rfl, IsS43.set_12 (IsS43.set_11 HI.out _) _, (HB.out.setCell HI.out.2 _).setCell HI.out.2 _, ((KeepBut.refl _ _ _).set_ _ _).set_ _ _⟩
set_option maxRecDepth 100000 in
set_option maxHeartbeats 4000000 in
theorem fall_0 (g : Nat) (n f s dl ks ee wd rh sl cp i id near : Int) (z w : World) (hI : IsS43 z w g n f s dl ks ee wd rh sl cp i 0 id true) (hB : Below z.heap.size z w) (n0 : 1 ≤ n) (n1 : n ≤ 8) (n2 : 0 ≤ f) (n3 : f ≤ 8) : Calls Try.prog 28 #[.pointer (some ⟨g, 0, none⟩), .int .i64 near] w fun en w' => en = .returned (.bool false) ∧ IsS43 z w' g n f s dl ks ee wd rh sl cp i 0 id true ∧ Below z.heap.size z w' ∧ KeepBut w w' g none := by
  have c0 : w.cell? ⟨g, 0, none⟩ = some (.int .i64 n) := (blk_cell hI.1 0).trans rfl
  have c1 : w.cell? ⟨g, 1, none⟩ = some (.int .i64 f) := (blk_cell hI.1 1).trans rfl
  have c11 : w.cell? ⟨g, 11, none⟩ = some (.int .i64 0) := (blk_cell hI.1 11).trans rfl
  have HI := Aside0.mk hI
  have HB := Aside0.mk hB
  clear hI hB
  go_enter Try.func28, Try.ntmps28
  go_wp2
  go_ret
  exact ⟨rfl, HI.out, HB.out, KeepBut.refl _ _ _⟩
set_option maxRecDepth 100000 in
set_option maxHeartbeats 4000000 in
theorem fall_1 (g : Nat) (n f s dl ks ee wd rh sl cp i id near : Int) (z w : World) (hI : IsS43 z w g n f s dl ks ee wd rh sl cp i 1 id true) (hB : Below z.heap.size z w) (n0 : 1 ≤ n) (n1 : n ≤ 8) (n2 : 0 ≤ f) (n3 : f ≤ 8) : Calls Try.prog 28 #[.pointer (some ⟨g, 0, none⟩), .int .i64 near] w fun en w' => en = .returned (.bool false) ∧ IsS43 z w' g n f s dl ks ee wd rh sl cp i 1 id true ∧ Below z.heap.size z w' ∧ KeepBut w w' g none := by
  have c0 : w.cell? ⟨g, 0, none⟩ = some (.int .i64 n) := (blk_cell hI.1 0).trans rfl
  have c1 : w.cell? ⟨g, 1, none⟩ = some (.int .i64 f) := (blk_cell hI.1 1).trans rfl
  have c11 : w.cell? ⟨g, 11, none⟩ = some (.int .i64 1) := (blk_cell hI.1 11).trans rfl
  have HI := Aside0.mk hI
  have HB := Aside0.mk hB
  clear hI hB
  go_enter Try.func28, Try.ntmps28
  go_wp2
  go_ret
  exact ⟨rfl, HI.out, HB.out, KeepBut.refl _ _ _⟩
set_option maxRecDepth 100000 in
set_option maxHeartbeats 4000000 in
theorem watch_0 (g : Nat) (n f s dl ks ee wd rh sl cp i id near : Int) (z w : World) (hI : IsS43 z w g n f s dl ks ee wd rh sl cp i 0 id true) (hB : Below z.heap.size z w) (n0 : 1 ≤ n) (n1 : n ≤ 8) (n2 : 0 ≤ f) (n3 : f ≤ 8)  : Calls Try.prog 14 #[.pointer (some ⟨g, 0, none⟩), .int .i64 near] w fun en w' => en = .returned (.tuple #[.int .i64 0, .int .i64 0]) ∧ IsS43 z w' g n f s dl ks ee wd rh sl cp i 0 id true ∧ Below z.heap.size z w' ∧ KeepBut w w' g none := by
  have HI := Aside0.mk hI
  have HB := Aside0.mk hB
  clear hI hB
  go_enter Try.func14, Try.ntmps14
  go_wp2_with (first | (go_at_call 25; go_loud (refine (none_ok g n f s dl ks ee wd rh sl cp i 0 id z w HI.out HB.out).mono ?_; rintro en w1 ⟨rfl, e1⟩; rw [e1]; clear e1)) | (go_at_call 28; go_loud (refine (fall_0 g n f s dl ks ee wd rh sl cp i id near z w HI.out HB.out n0 n1 n2 n3).mono ?_; rintro en w2 ⟨rfl, a1, a2, a3⟩; have d11 : w2.cell? ⟨g, 11, none⟩ = some (.int .i64 0) := (blk_cell a1.1 11).trans rfl; have J1 := Aside0.mk a1; have J2 := Aside0.mk a2; have J3 := Aside0.mk a3; clear a1 a2 a3)))
  go_ret2
  exact ⟨rfl, J1.out, J2.out, J3.out⟩
set_option maxRecDepth 100000 in
set_option maxHeartbeats 4000000 in
theorem watch_1 (g : Nat) (n f s dl ks ee wd rh sl cp i id near : Int) (z w : World) (hI : IsS43 z w g n f s dl ks ee wd rh sl cp i 1 id true) (hB : Below z.heap.size z w) (n0 : 1 ≤ n) (n1 : n ≤ 8) (n2 : 0 ≤ f) (n3 : f ≤ 8)  : Calls Try.prog 14 #[.pointer (some ⟨g, 0, none⟩), .int .i64 near] w fun en w' => en = .returned (.tuple #[.int .i64 1, .int .i64 0]) ∧ IsS43 z w' g n f s dl ks ee wd rh sl cp i 1 id true ∧ Below z.heap.size z w' ∧ KeepBut w w' g none := by
  have HI := Aside0.mk hI
  have HB := Aside0.mk hB
  clear hI hB
  go_enter Try.func14, Try.ntmps14
  go_wp2_with (first | (go_at_call 25; go_loud (refine (none_ok g n f s dl ks ee wd rh sl cp i 1 id z w HI.out HB.out).mono ?_; rintro en w1 ⟨rfl, e1⟩; rw [e1]; clear e1)) | (go_at_call 28; go_loud (refine (fall_1 g n f s dl ks ee wd rh sl cp i id near z w HI.out HB.out n0 n1 n2 n3).mono ?_; rintro en w2 ⟨rfl, a1, a2, a3⟩; have d11 : w2.cell? ⟨g, 11, none⟩ = some (.int .i64 1) := (blk_cell a1.1 11).trans rfl; have J1 := Aside0.mk a1; have J2 := Aside0.mk a2; have J3 := Aside0.mk a3; clear a1 a2 a3)))
  go_ret2
  exact ⟨rfl, J1.out, J2.out, J3.out⟩
set_option maxRecDepth 100000 in
set_option maxHeartbeats 4000000 in
theorem watch_2 (g : Nat) (n f s dl ks ee wd rh sl cp i id near : Int) (z w : World) (hI : IsS43 z w g n f s dl ks ee wd rh sl cp i 2 id true) (hB : Below z.heap.size z w) (n0 : 1 ≤ n) (n1 : n ≤ 8) (n2 : 0 ≤ f) (n3 : f ≤ 8)  : Calls Try.prog 14 #[.pointer (some ⟨g, 0, none⟩), .int .i64 near] w fun en w' => en = .returned (.tuple #[.int .i64 2, .int .i64 0]) ∧ IsS43 z w' g n f s dl ks ee wd rh sl cp i 2 id true ∧ Below z.heap.size z w' ∧ KeepBut w w' g none := by
  have HI := Aside0.mk hI
  have HB := Aside0.mk hB
  clear hI hB
  go_enter Try.func14, Try.ntmps14
  go_wp2_with (first | (go_at_call 25; go_loud (refine (none_ok g n f s dl ks ee wd rh sl cp i 2 id z w HI.out HB.out).mono ?_; rintro en w1 ⟨rfl, e1⟩; rw [e1]; clear e1)) | (go_at_call 28; go_loud (refine (fall_2 g n f s dl ks ee wd rh sl cp i id near z w HI.out HB.out n0 n1 n2 n3).mono ?_; rintro en w2 ⟨rfl, a1, a2, a3⟩; have d11 : w2.cell? ⟨g, 11, none⟩ = some (.int .i64 2) := (blk_cell a1.1 11).trans rfl; have J1 := Aside0.mk a1; have J2 := Aside0.mk a2; have J3 := Aside0.mk a3; clear a1 a2 a3)))
  go_ret2
  exact ⟨rfl, J1.out, J2.out, J3.out⟩
set_option maxRecDepth 100000 in
set_option maxHeartbeats 4000000 in
theorem watch_3e (g : Nat) (n f s dl ks ee wd rh sl cp i id near : Int) (z w : World) (hI : IsS43 z w g n f s dl ks ee wd rh sl cp i 3 id true) (hB : Below z.heap.size z w) (n0 : 1 ≤ n) (n1 : n ≤ 8) (n2 : 0 ≤ f) (n3 : f ≤ 8) (he : n - f ≤ near) : Calls Try.prog 14 #[.pointer (some ⟨g, 0, none⟩), .int .i64 near] w fun en w' => en = .returned (.tuple #[.int .i64 3, .int .i64 0]) ∧ IsS43 z w' g n f s dl ks ee wd rh sl cp i 3 id true ∧ Below z.heap.size z w' ∧ KeepBut w w' g none := by
  have HI := Aside0.mk hI
  have HB := Aside0.mk hB
  clear hI hB
  go_enter Try.func14, Try.ntmps14
  go_wp2_with (first | (go_at_call 25; go_loud (refine (none_ok g n f s dl ks ee wd rh sl cp i 3 id z w HI.out HB.out).mono ?_; rintro en w1 ⟨rfl, e1⟩; rw [e1]; clear e1)) | (go_at_call 28; go_loud (refine (fall_3e g n f s dl ks ee wd rh sl cp i id near z w HI.out HB.out n0 n1 n2 n3 he).mono ?_; rintro en w2 ⟨rfl, a1, a2, a3⟩; have d11 : w2.cell? ⟨g, 11, none⟩ = some (.int .i64 3) := (blk_cell a1.1 11).trans rfl; have J1 := Aside0.mk a1; have J2 := Aside0.mk a2; have J3 := Aside0.mk a3; clear a1 a2 a3)))
  go_ret2
  exact ⟨rfl, J1.out, J2.out, J3.out⟩
set_option maxRecDepth 100000 in
set_option maxHeartbeats 4000000 in
theorem watch_3n (g : Nat) (n f s dl ks ee wd rh sl cp i id near : Int) (z w : World) (hI : IsS43 z w g n f s dl ks ee wd rh sl cp i 3 id true) (hB : Below z.heap.size z w) (n0 : 1 ≤ n) (n1 : n ≤ 8) (n2 : 0 ≤ f) (n3 : f ≤ 8) (he : near < n - f) : Calls Try.prog 14 #[.pointer (some ⟨g, 0, none⟩), .int .i64 near] w fun en w' => en = .returned (.tuple #[.int .i64 2, .int .i64 0]) ∧ IsS43 z w' g n f s dl ks ee wd rh sl cp i 2 id true ∧ Below z.heap.size z w' ∧ KeepBut w w' g none := by
  have HI := Aside0.mk hI
  have HB := Aside0.mk hB
  clear hI hB
  go_enter Try.func14, Try.ntmps14
  go_wp2_with (first | (go_at_call 25; go_loud (refine (none_ok g n f s dl ks ee wd rh sl cp i 3 id z w HI.out HB.out).mono ?_; rintro en w1 ⟨rfl, e1⟩; rw [e1]; clear e1)) | (go_at_call 28; go_loud (refine (fall_3n g n f s dl ks ee wd rh sl cp i id near z w HI.out HB.out n0 n1 n2 n3 he).mono ?_; rintro en w2 ⟨rfl, a1, a2, a3⟩; have d11 : w2.cell? ⟨g, 11, none⟩ = some (.int .i64 2) := (blk_cell a1.1 11).trans rfl; have J1 := Aside0.mk a1; have J2 := Aside0.mk a2; have J3 := Aside0.mk a3; clear a1 a2 a3)))
  go_ret2
  exact ⟨rfl, J1.out, J2.out, J3.out⟩
set_option maxRecDepth 100000 in
set_option maxHeartbeats 4000000 in
theorem watch_4e (g : Nat) (n f s dl ks ee wd rh sl cp i id near : Int) (z w : World) (hI : IsS43 z w g n f s dl ks ee wd rh sl cp i 4 id true) (hB : Below z.heap.size z w) (n0 : 1 ≤ n) (n1 : n ≤ 8) (n2 : 0 ≤ f) (n3 : f ≤ 8) (he : n - f ≤ near) : Calls Try.prog 14 #[.pointer (some ⟨g, 0, none⟩), .int .i64 near] w fun en w' => en = .returned (.tuple #[.int .i64 4, .int .i64 0]) ∧ IsS43 z w' g n f s dl ks ee wd rh sl cp i 4 id true ∧ Below z.heap.size z w' ∧ KeepBut w w' g none := by
  have HI := Aside0.mk hI
  have HB := Aside0.mk hB
  clear hI hB
  go_enter Try.func14, Try.ntmps14
  go_wp2_with (first | (go_at_call 25; go_loud (refine (none_ok g n f s dl ks ee wd rh sl cp i 4 id z w HI.out HB.out).mono ?_; rintro en w1 ⟨rfl, e1⟩; rw [e1]; clear e1)) | (go_at_call 28; go_loud (refine (fall_4e g n f s dl ks ee wd rh sl cp i id near z w HI.out HB.out n0 n1 n2 n3 he).mono ?_; rintro en w2 ⟨rfl, a1, a2, a3⟩; have d11 : w2.cell? ⟨g, 11, none⟩ = some (.int .i64 4) := (blk_cell a1.1 11).trans rfl; have J1 := Aside0.mk a1; have J2 := Aside0.mk a2; have J3 := Aside0.mk a3; clear a1 a2 a3)))
  go_ret2
  exact ⟨rfl, J1.out, J2.out, J3.out⟩
set_option maxRecDepth 100000 in
set_option maxHeartbeats 4000000 in
theorem watch_4n (g : Nat) (n f s dl ks ee wd rh sl cp i id near : Int) (z w : World) (hI : IsS43 z w g n f s dl ks ee wd rh sl cp i 4 id true) (hB : Below z.heap.size z w) (n0 : 1 ≤ n) (n1 : n ≤ 8) (n2 : 0 ≤ f) (n3 : f ≤ 8) (he : near < n - f) : Calls Try.prog 14 #[.pointer (some ⟨g, 0, none⟩), .int .i64 near] w fun en w' => en = .returned (.tuple #[.int .i64 2, .int .i64 0]) ∧ IsS43 z w' g n f s dl ks ee wd rh sl cp i 2 id true ∧ Below z.heap.size z w' ∧ KeepBut w w' g none := by
  have HI := Aside0.mk hI
  have HB := Aside0.mk hB
  clear hI hB
  go_enter Try.func14, Try.ntmps14
  go_wp2_with (first | (go_at_call 25; go_loud (refine (none_ok g n f s dl ks ee wd rh sl cp i 4 id z w HI.out HB.out).mono ?_; rintro en w1 ⟨rfl, e1⟩; rw [e1]; clear e1)) | (go_at_call 28; go_loud (refine (fall_4n g n f s dl ks ee wd rh sl cp i id near z w HI.out HB.out n0 n1 n2 n3 he).mono ?_; rintro en w2 ⟨rfl, a1, a2, a3⟩; have d11 : w2.cell? ⟨g, 11, none⟩ = some (.int .i64 2) := (blk_cell a1.1 11).trans rfl; have J1 := Aside0.mk a1; have J2 := Aside0.mk a2; have J3 := Aside0.mk a3; clear a1 a2 a3)))
  go_ret2
  exact ⟨rfl, J1.out, J2.out, J3.out⟩
end Go.Proofs.Ytiiaooaigeenoaa.Mode3
