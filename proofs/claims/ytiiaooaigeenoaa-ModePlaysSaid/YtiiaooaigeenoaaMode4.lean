/- A new machine. -/
import Derived.Test.YtiiaooaigeenoaaProg
import Derived.Below
import Derived.Deep.Draws
import Derived.Deep.AppendLies
import Derived.Maps.AppendAt
import Derived.OwnWalk
import Derived.Laws.BytesArg
import Derived.Laws.MakeOwn
import Derived.Laws.OwnMore
import Derived.Deep.OwnRows
import Derived.Tactics
import Derived.Lib.ConvBytes
import Derived.Laws.Slices
import Derived.WalkKit
import Derived.KernelRfl
import Derived.RowKit3
import Derived.Deep.LoopGhost
import Derived.Deep.QuietTactic
import Derived.BigQuiet
import Derived.WideLaws
import Derived.Deep.DeepCutAuto
import Derived.Deep.CutBlock
import Derived.Deep.RegionHeld3
import Derived.Laws.Rows
import Derived.Lib.AppendStr
import Derived.ArgAppend
import Derived.Laws.IdiomCopy
import Derived.OrdersHeld
import Derived.Laws.BitsLemmas
import Derived.RowKit
import Derived.RegionTactic
import Derived.ChangeAlike
import Derived.Outline
import Derived.LoopTactic
import Derived.WalkSpells
import Derived.WalkLawsBesides
import Derived.Lib.Hide
import Derived.StillTailTactics
import Derived.Deep.RegionWith
import Derived.Deep.RegionLaw
import Derived.Deep.DeepFit
import Derived.Deep.DeepMust
import Derived.Test.YtiiaooaigeenoaaWWords
import Derived.Test.YtiiaooaigeenoaaWLast
import Derived.Test.YtiiaooaigeenoaaWTab
import Derived.Test.YtiiaooaigeenoaaWFour
import Derived.Test.YtiiaooaigeenoaaWQPut
import Derived.Test.YtiiaooaigeenoaaWApart
import Derived.Test.YtiiaooaigeenoaaWArr
import Derived.Test.YtiiaooaigeenoaaWZeros
import Derived.Test.YtiiaooaigeenoaaWFoot
import Derived.Test.YtiiaooaigeenoaaWKept
import Derived.Test.YtiiaooaigeenoaaWShare
import Derived.Test.YtiiaooaigeenoaaWN
import Derived.Test.YtiiaooaigeenoaaWFootNe
import Derived.Test.YtiiaooaigeenoaaWAt
import Derived.Test.YtiiaooaigeenoaaWEqStruct
import Derived.Test.YtiiaooaigeenoaaWRepsOne
import Derived.Test.YtiiaooaigeenoaaWInv
import Derived.Test.YtiiaooaigeenoaaWInvWords
import Derived.Test.YtiiaooaigeenoaaWGuard
import Derived.Test.YtiiaooaigeenoaaWNEv
import Derived.Test.YtiiaooaigeenoaaWMore
import Derived.Test.YtiiaooaigeenoaaMode2
namespace Go.Proofs.Ytiiaooaigeenoaa.Mode4
open Go.RowKit Go.Proofs.YtiiaooaigeenoaaW.PrintWords Go.Proofs.YtiiaooaigeenoaaW.PrintLast Go.Proofs.YtiiaooaigeenoaaW.PrintMore 
attribute [local go_sem] max2_int min2_int max_two min_two max_three min_three max_four min_four
set_option linter.unusedVariables false
set_option linter.unusedSimpArgs false
open Go.Proofs.Ytiiaooaigeenoaa.QBase Go.Proofs.Ytiiaooaigeenoaa.Sch Go.Proofs.Ytiiaooaigeenoaa.Mode1 Go.Proofs.Ytiiaooaigeenoaa.Mode2
set_option maxRecDepth 100000 in
set_option maxHeartbeats 4000000 in
theorem new_yes (n f s dl ks ee wd rh sl cp i : Int) (w : World) (hk : Ok n f s dl ks ee wd rh sl cp) (i0 : 0 ≤ i) (i1 : i < n) : Calls Try.prog 8 #[.agg #[.int .i64 n, .int .i64 f, .int .i64 s, .int .i64 dl, .int .i64 ks, .int .i64 ee, .int .i64 wd, .int .i64 rh, .int .i64 sl, .int .i64 cp], .int .i64 i] w fun en w' => ∃ g, en = .returned (.tuple #[.pointer (some ⟨g, 0, none⟩), .int .i64 0]) ∧ IsS43 w w' g n f s dl ks ee wd rh sl cp i 1 0 true ∧ Below w.heap.size w w' := by
  have HK := Aside0.mk (check_in 0 n f s dl ks ee wd rh sl cp hk)
  clear hk
  go_enter Try.func8, Try.ntmps8
  go_wp2_with (first | (go_at_call 23; go_loud (refine (sched_Check.calls 3 n f s dl ks ee wd rh sl cp 0 _ HK.out).mono ?_; rintro en w1 ⟨rfl, hb⟩; have hbk := blk_below (blk_new w (.cells #[.int .i64 n, .int .i64 f, .int .i64 s, .int .i64 dl, .int .i64 ks, .int .i64 ee, .int .i64 wd, .int .i64 rh, .int .i64 sl, .int .i64 cp] 23 (0, 0))) hb; have c0 : w1.cell? ⟨w.heap.size, 0, none⟩ = some (.int .i64 n) := (blk_cell hbk 0).trans rfl; have c1 : w1.cell? ⟨w.heap.size, 1, none⟩ = some (.int .i64 f) := (blk_cell hbk 1).trans rfl; have c2 : w1.cell? ⟨w.heap.size, 2, none⟩ = some (.int .i64 s) := (blk_cell hbk 2).trans rfl; have c3 : w1.cell? ⟨w.heap.size, 3, none⟩ = some (.int .i64 dl) := (blk_cell hbk 3).trans rfl; have c4 : w1.cell? ⟨w.heap.size, 4, none⟩ = some (.int .i64 ks) := (blk_cell hbk 4).trans rfl; have c5 : w1.cell? ⟨w.heap.size, 5, none⟩ = some (.int .i64 ee) := (blk_cell hbk 5).trans rfl; have c6 : w1.cell? ⟨w.heap.size, 6, none⟩ = some (.int .i64 wd) := (blk_cell hbk 6).trans rfl; have c7 : w1.cell? ⟨w.heap.size, 7, none⟩ = some (.int .i64 rh) := (blk_cell hbk 7).trans rfl; have c8 : w1.cell? ⟨w.heap.size, 8, none⟩ = some (.int .i64 sl) := (blk_cell hbk 8).trans rfl; have c9 : w1.cell? ⟨w.heap.size, 9, none⟩ = some (.int .i64 cp) := (blk_cell hbk 9).trans rfl)))
  go_ret2
  have hsz : w.heap.size ≤ w1.heap.size := (below_step (below_alloc (Below.refl _ _) _) hb).size
  exact ⟨_, rfl, ⟨blk_new _ _, hsz⟩, below_alloc (below_step (below_alloc (Below.refl _ _) _) hb) _⟩
set_option maxRecDepth 100000 in
set_option maxHeartbeats 4000000 in
theorem new_bad (n f s dl ks ee wd rh sl cp i : Int) (w : World) (hk : ¬ Ok n f s dl ks ee wd rh sl cp) : Calls Try.prog 8 #[.agg #[.int .i64 n, .int .i64 f, .int .i64 s, .int .i64 dl, .int .i64 ks, .int .i64 ee, .int .i64 wd, .int .i64 rh, .int .i64 sl, .int .i64 cp], .int .i64 i] w fun en w' => en = .returned (.tuple #[.pointer none, .int .i64 1]) ∧ Below w.heap.size w w' := by
  have HK := Aside0.mk (check_out 0 n f s dl ks ee wd rh sl cp hk)
  clear hk
  go_enter Try.func8, Try.ntmps8
  go_wp2_with (first | (go_at_call 23; go_loud (refine (sched_Check.calls 3 n f s dl ks ee wd rh sl cp 1 _ HK.out).mono ?_; rintro en w1 ⟨rfl, hb⟩; have hbk := blk_below (blk_new w (.cells #[.int .i64 n, .int .i64 f, .int .i64 s, .int .i64 dl, .int .i64 ks, .int .i64 ee, .int .i64 wd, .int .i64 rh, .int .i64 sl, .int .i64 cp] 23 (0, 0))) hb; have c0 : w1.cell? ⟨w.heap.size, 0, none⟩ = some (.int .i64 n) := (blk_cell hbk 0).trans rfl; have c1 : w1.cell? ⟨w.heap.size, 1, none⟩ = some (.int .i64 f) := (blk_cell hbk 1).trans rfl; have c2 : w1.cell? ⟨w.heap.size, 2, none⟩ = some (.int .i64 s) := (blk_cell hbk 2).trans rfl; have c3 : w1.cell? ⟨w.heap.size, 3, none⟩ = some (.int .i64 dl) := (blk_cell hbk 3).trans rfl; have c4 : w1.cell? ⟨w.heap.size, 4, none⟩ = some (.int .i64 ks) := (blk_cell hbk 4).trans rfl; have c5 : w1.cell? ⟨w.heap.size, 5, none⟩ = some (.int .i64 ee) := (blk_cell hbk 5).trans rfl; have c6 : w1.cell? ⟨w.heap.size, 6, none⟩ = some (.int .i64 wd) := (blk_cell hbk 6).trans rfl; have c7 : w1.cell? ⟨w.heap.size, 7, none⟩ = some (.int .i64 rh) := (blk_cell hbk 7).trans rfl; have c8 : w1.cell? ⟨w.heap.size, 8, none⟩ = some (.int .i64 sl) := (blk_cell hbk 8).trans rfl; have c9 : w1.cell? ⟨w.heap.size, 9, none⟩ = some (.int .i64 cp) := (blk_cell hbk 9).trans rfl)))
  go_ret2
  exact ⟨rfl, below_step (below_alloc (Below.refl _ _) _) hb⟩
set_option maxRecDepth 100000 in
set_option maxHeartbeats 4000000 in
theorem new_low (n f s dl ks ee wd rh sl cp i : Int) (w : World) (hk : Ok n f s dl ks ee wd rh sl cp) (h : i < 0) : Calls Try.prog 8 #[.agg #[.int .i64 n, .int .i64 f, .int .i64 s, .int .i64 dl, .int .i64 ks, .int .i64 ee, .int .i64 wd, .int .i64 rh, .int .i64 sl, .int .i64 cp], .int .i64 i] w fun en w' => en = .returned (.tuple #[.pointer none, .int .i64 1]) ∧ Below w.heap.size w w' := by
  have HK := Aside0.mk (check_in 0 n f s dl ks ee wd rh sl cp hk)
  clear hk
  go_enter Try.func8, Try.ntmps8
  go_wp2_with (first | (go_at_call 23; go_loud (refine (sched_Check.calls 3 n f s dl ks ee wd rh sl cp 0 _ HK.out).mono ?_; rintro en w1 ⟨rfl, hb⟩; have hbk := blk_below (blk_new w (.cells #[.int .i64 n, .int .i64 f, .int .i64 s, .int .i64 dl, .int .i64 ks, .int .i64 ee, .int .i64 wd, .int .i64 rh, .int .i64 sl, .int .i64 cp] 23 (0, 0))) hb; have c0 : w1.cell? ⟨w.heap.size, 0, none⟩ = some (.int .i64 n) := (blk_cell hbk 0).trans rfl; have c1 : w1.cell? ⟨w.heap.size, 1, none⟩ = some (.int .i64 f) := (blk_cell hbk 1).trans rfl; have c2 : w1.cell? ⟨w.heap.size, 2, none⟩ = some (.int .i64 s) := (blk_cell hbk 2).trans rfl; have c3 : w1.cell? ⟨w.heap.size, 3, none⟩ = some (.int .i64 dl) := (blk_cell hbk 3).trans rfl; have c4 : w1.cell? ⟨w.heap.size, 4, none⟩ = some (.int .i64 ks) := (blk_cell hbk 4).trans rfl; have c5 : w1.cell? ⟨w.heap.size, 5, none⟩ = some (.int .i64 ee) := (blk_cell hbk 5).trans rfl; have c6 : w1.cell? ⟨w.heap.size, 6, none⟩ = some (.int .i64 wd) := (blk_cell hbk 6).trans rfl; have c7 : w1.cell? ⟨w.heap.size, 7, none⟩ = some (.int .i64 rh) := (blk_cell hbk 7).trans rfl; have c8 : w1.cell? ⟨w.heap.size, 8, none⟩ = some (.int .i64 sl) := (blk_cell hbk 8).trans rfl; have c9 : w1.cell? ⟨w.heap.size, 9, none⟩ = some (.int .i64 cp) := (blk_cell hbk 9).trans rfl)))
  go_ret2
  exact ⟨rfl, below_step (below_alloc (Below.refl _ _) _) hb⟩
set_option maxRecDepth 100000 in
set_option maxHeartbeats 4000000 in
theorem new_high (n f s dl ks ee wd rh sl cp i : Int) (w : World) (hk : Ok n f s dl ks ee wd rh sl cp) (i0 : 0 ≤ i) (h : n ≤ i) : Calls Try.prog 8 #[.agg #[.int .i64 n, .int .i64 f, .int .i64 s, .int .i64 dl, .int .i64 ks, .int .i64 ee, .int .i64 wd, .int .i64 rh, .int .i64 sl, .int .i64 cp], .int .i64 i] w fun en w' => en = .returned (.tuple #[.pointer none, .int .i64 1]) ∧ Below w.heap.size w w' := by
  have HK := Aside0.mk (check_in 0 n f s dl ks ee wd rh sl cp hk)
  clear hk
  go_enter Try.func8, Try.ntmps8
  go_wp2_with (first | (go_at_call 23; go_loud (refine (sched_Check.calls 3 n f s dl ks ee wd rh sl cp 0 _ HK.out).mono ?_; rintro en w1 ⟨rfl, hb⟩; have hbk := blk_below (blk_new w (.cells #[.int .i64 n, .int .i64 f, .int .i64 s, .int .i64 dl, .int .i64 ks, .int .i64 ee, .int .i64 wd, .int .i64 rh, .int .i64 sl, .int .i64 cp] 23 (0, 0))) hb; have c0 : w1.cell? ⟨w.heap.size, 0, none⟩ = some (.int .i64 n) := (blk_cell hbk 0).trans rfl; have c1 : w1.cell? ⟨w.heap.size, 1, none⟩ = some (.int .i64 f) := (blk_cell hbk 1).trans rfl; have c2 : w1.cell? ⟨w.heap.size, 2, none⟩ = some (.int .i64 s) := (blk_cell hbk 2).trans rfl; have c3 : w1.cell? ⟨w.heap.size, 3, none⟩ = some (.int .i64 dl) := (blk_cell hbk 3).trans rfl; have c4 : w1.cell? ⟨w.heap.size, 4, none⟩ = some (.int .i64 ks) := (blk_cell hbk 4).trans rfl; have c5 : w1.cell? ⟨w.heap.size, 5, none⟩ = some (.int .i64 ee) := (blk_cell hbk 5).trans rfl; have c6 : w1.cell? ⟨w.heap.size, 6, none⟩ = some (.int .i64 wd) := (blk_cell hbk 6).trans rfl; have c7 : w1.cell? ⟨w.heap.size, 7, none⟩ = some (.int .i64 rh) := (blk_cell hbk 7).trans rfl; have c8 : w1.cell? ⟨w.heap.size, 8, none⟩ = some (.int .i64 sl) := (blk_cell hbk 8).trans rfl; have c9 : w1.cell? ⟨w.heap.size, 9, none⟩ = some (.int .i64 cp) := (blk_cell hbk 9).trans rfl)))
  go_ret2
  exact ⟨rfl, below_step (below_alloc (Below.refl _ _) _) hb⟩
end Go.Proofs.Ytiiaooaigeenoaa.Mode4
