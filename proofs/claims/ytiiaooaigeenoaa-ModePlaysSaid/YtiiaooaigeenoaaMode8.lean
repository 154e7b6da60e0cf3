/- What the reference machine comes to, way by way. -/
import Derived.Test.YtiiaooaigeenoaaProg
import Derived.Below
import Derived.Deep.Draws
import Derived.Deep.AppendLies
import Derived.Maps.AppendAt
import Derived.OwnWalk
import Derived.Laws.BytesArg
import Derived.Laws.MakeOwn
import Derived.Laws.OwnMore
import Derived.Deep.OwnRows
import Derived.Tactics
import Derived.Lib.ConvBytes
import Derived.Laws.Slices
import Derived.WalkKit
import Derived.KernelRfl
import Derived.RowKit3
import Derived.Deep.LoopGhost
import Derived.Deep.QuietTactic
import Derived.BigQuiet
import Derived.WideLaws
import Derived.Deep.DeepCutAuto
import Derived.Deep.CutBlock
import Derived.Deep.RegionHeld3
import Derived.Laws.Rows
import Derived.Lib.AppendStr
import Derived.ArgAppend
import Derived.Laws.IdiomCopy
import Derived.OrdersHeld
import Derived.Laws.BitsLemmas
import Derived.RowKit
import Derived.RegionTactic
import Derived.ChangeAlike
import Derived.Outline
import Derived.LoopTactic
import Derived.WalkSpells
import Derived.WalkLawsBesides
import Derived.Lib.Hide
import Derived.StillTailTactics
import Derived.Deep.RegionWith
import Derived.Deep.RegionLaw
import Derived.Deep.DeepFit
import Derived.Deep.DeepMust
import Derived.Test.YtiiaooaigeenoaaWWords
import Derived.Test.YtiiaooaigeenoaaWLast
import Derived.Test.YtiiaooaigeenoaaWTab
import Derived.Test.YtiiaooaigeenoaaWFour
import Derived.Test.YtiiaooaigeenoaaWQPut
import Derived.Test.YtiiaooaigeenoaaWApart
import Derived.Test.YtiiaooaigeenoaaWArr
import Derived.Test.YtiiaooaigeenoaaWZeros
import Derived.Test.YtiiaooaigeenoaaWFoot
import Derived.Test.YtiiaooaigeenoaaWKept
import Derived.Test.YtiiaooaigeenoaaWShare
import Derived.Test.YtiiaooaigeenoaaWN
import Derived.Test.YtiiaooaigeenoaaWFootNe
import Derived.Test.YtiiaooaigeenoaaWAt
import Derived.Test.YtiiaooaigeenoaaWEqStruct
import Derived.Test.YtiiaooaigeenoaaWRepsOne
import Derived.Test.YtiiaooaigeenoaaWInv
import Derived.Test.YtiiaooaigeenoaaWInvWords
import Derived.Test.YtiiaooaigeenoaaWGuard
import Derived.Test.YtiiaooaigeenoaaWNEv
import Derived.Test.YtiiaooaigeenoaaWMore
import Derived.Test.YtiiaooaigeenoaaMode7
import Derived.Test.YtiiaooaigeenoaaChk
namespace Go.Proofs.Ytiiaooaigeenoaa.Mode8
open Go.RowKit Go.Proofs.YtiiaooaigeenoaaW.PrintWords Go.Proofs.YtiiaooaigeenoaaW.PrintLast Go.Proofs.YtiiaooaigeenoaaW.PrintMore 
attribute [local go_sem] max2_int min2_int max_two min_two max_three min_three max_four min_four
set_option linter.unusedVariables false
set_option linter.unusedSimpArgs false
open Go.Proofs.Ytiiaooaigeenoaa.QBase Go.Proofs.Ytiiaooaigeenoaa.Sch Go.Proofs.Ytiiaooaigeenoaa.Mode1 Go.Proofs.Ytiiaooaigeenoaa.Mode2 Go.Proofs.Ytiiaooaigeenoaa.Mode7
theorem rnew_yes (n f s dl ks ee wd rh sl cp i : Int) (w : World) (hk : Ok n f s dl ks ee wd rh sl cp) (i0 : 0 ≤ i) (i1 : i < n) : Calls Try.prog 18 #[.agg #[.int .i64 n, .int .i64 f, .int .i64 s, .int .i64 dl, .int .i64 ks, .int .i64 ee, .int .i64 wd, .int .i64 rh, .int .i64 sl, .int .i64 cp], .int .i64 i] w fun en w' => ∃ g, en = .returned (.tuple #[.pointer (some ⟨g, 0, none⟩), .int .i64 0]) ∧ IsS53 w w' g n f s dl ks ee wd rh sl cp i 1 0 ∧ Below w.heap.size w w' := by
  have HK := Aside0.mk (rcheck_in n f s dl ks ee wd rh sl cp hk)
  clear hk
  go_enter Try.func18, Try.ntmps18
  go_wp2_with (first | (go_at_call 33; go_loud (refine (carillonref16_Check.calls n f s dl ks ee wd rh sl cp 0 _ HK.out).mono ?_; rintro en w1 ⟨rfl, hb⟩; have hbk := blk_below (blk_new w (.cells #[.int .i64 n, .int .i64 f, .int .i64 s, .int .i64 dl, .int .i64 ks, .int .i64 ee, .int .i64 wd, .int .i64 rh, .int .i64 sl, .int .i64 cp] 23 (0, 0))) hb; have c0 : w1.cell? ⟨w.heap.size, 0, none⟩ = some (.int .i64 n) := (blk_cell hbk 0).trans rfl; have c1 : w1.cell? ⟨w.heap.size, 1, none⟩ = some (.int .i64 f) := (blk_cell hbk 1).trans rfl; have c2 : w1.cell? ⟨w.heap.size, 2, none⟩ = some (.int .i64 s) := (blk_cell hbk 2).trans rfl; have c3 : w1.cell? ⟨w.heap.size, 3, none⟩ = some (.int .i64 dl) := (blk_cell hbk 3).trans rfl; have c4 : w1.cell? ⟨w.heap.size, 4, none⟩ = some (.int .i64 ks) := (blk_cell hbk 4).trans rfl; have c5 : w1.cell? ⟨w.heap.size, 5, none⟩ = some (.int .i64 ee) := (blk_cell hbk 5).trans rfl; have c6 : w1.cell? ⟨w.heap.size, 6, none⟩ = some (.int .i64 wd) := (blk_cell hbk 6).trans rfl; have c7 : w1.cell? ⟨w.heap.size, 7, none⟩ = some (.int .i64 rh) := (blk_cell hbk 7).trans rfl; have c8 : w1.cell? ⟨w.heap.size, 8, none⟩ = some (.int .i64 sl) := (blk_cell hbk 8).trans rfl; have c9 : w1.cell? ⟨w.heap.size, 9, none⟩ = some (.int .i64 cp) := (blk_cell hbk 9).trans rfl)))
  go_ret2
  have hsz : w.heap.size ≤ w1.heap.size := (below_step (below_alloc (Below.refl _ _) _) hb).size
  exact ⟨_, rfl, ⟨blk_new _ _, hsz⟩, below_alloc (below_step (below_alloc (Below.refl _ _) _) hb) _⟩
set_option maxRecDepth 100000 in
set_option maxHeartbeats 4000000 in
theorem rnew_bad (n f s dl ks ee wd rh sl cp i : Int) (w : World) (hk : ¬ Ok n f s dl ks ee wd rh sl cp) : Calls Try.prog 18 #[.agg #[.int .i64 n, .int .i64 f, .int .i64 s, .int .i64 dl, .int .i64 ks, .int .i64 ee, .int .i64 wd, .int .i64 rh, .int .i64 sl, .int .i64 cp], .int .i64 i] w fun en w' => en = .returned (.tuple #[.pointer none, .int .i64 1]) ∧ Below w.heap.size w w' := by
  have HK := Aside0.mk (rcheck_out n f s dl ks ee wd rh sl cp hk)
  clear hk
  go_enter Try.func18, Try.ntmps18
  go_wp2_with (first | (go_at_call 33; go_loud (refine (carillonref16_Check.calls n f s dl ks ee wd rh sl cp 1 _ HK.out).mono ?_; rintro en w1 ⟨rfl, hb⟩; have hbk := blk_below (blk_new w (.cells #[.int .i64 n, .int .i64 f, .int .i64 s, .int .i64 dl, .int .i64 ks, .int .i64 ee, .int .i64 wd, .int .i64 rh, .int .i64 sl, .int .i64 cp] 23 (0, 0))) hb; have c0 : w1.cell? ⟨w.heap.size, 0, none⟩ = some (.int .i64 n) := (blk_cell hbk 0).trans rfl)))
  go_ret2
  exact ⟨rfl, below_step (below_alloc (Below.refl _ _) _) hb⟩
set_option maxRecDepth 100000 in
set_option maxHeartbeats 4000000 in
theorem rnew_low (n f s dl ks ee wd rh sl cp i : Int) (w : World) (hk : Ok n f s dl ks ee wd rh sl cp) (h : i < 0) : Calls Try.prog 18 #[.agg #[.int .i64 n, .int .i64 f, .int .i64 s, .int .i64 dl, .int .i64 ks, .int .i64 ee, .int .i64 wd, .int .i64 rh, .int .i64 sl, .int .i64 cp], .int .i64 i] w fun en w' => en = .returned (.tuple #[.pointer none, .int .i64 1]) ∧ Below w.heap.size w w' := by
  have HK := Aside0.mk (rcheck_in n f s dl ks ee wd rh sl cp hk)
  clear hk
  go_enter Try.func18, Try.ntmps18
  go_wp2_with (first | (go_at_call 33; go_loud (refine (carillonref16_Check.calls n f s dl ks ee wd rh sl cp 0 _ HK.out).mono ?_; rintro en w1 ⟨rfl, hb⟩; have hbk := blk_below (blk_new w (.cells #[.int .i64 n, .int .i64 f, .int .i64 s, .int .i64 dl, .int .i64 ks, .int .i64 ee, .int .i64 wd, .int .i64 rh, .int .i64 sl, .int .i64 cp] 23 (0, 0))) hb; have c0 : w1.cell? ⟨w.heap.size, 0, none⟩ = some (.int .i64 n) := (blk_cell hbk 0).trans rfl)))
  go_ret2
  exact ⟨rfl, below_step (below_alloc (Below.refl _ _) _) hb⟩
set_option maxRecDepth 100000 in
set_option maxHeartbeats 4000000 in
theorem rnew_high (n f s dl ks ee wd rh sl cp i : Int) (w : World) (hk : Ok n f s dl ks ee wd rh sl cp) (i0 : 0 ≤ i) (h : n ≤ i) : Calls Try.prog 18 #[.agg #[.int .i64 n, .int .i64 f, .int .i64 s, .int .i64 dl, .int .i64 ks, .int .i64 ee, .int .i64 wd, .int .i64 rh, .int .i64 sl, .int .i64 cp], .int .i64 i] w fun en w' => en = .returned (.tuple #[.pointer none, .int .i64 1]) ∧ Below w.heap.size w w' := by
  have HK := Aside0.mk (rcheck_in n f s dl ks ee wd rh sl cp hk)
  clear hk
  go_enter Try.func18, Try.ntmps18
  go_wp2_with (first | (go_at_call 33; go_loud (refine (carillonref16_Check.calls n f s dl ks ee wd rh sl cp 0 _ HK.out).mono ?_; rintro en w1 ⟨rfl, hb⟩; have hbk := blk_below (blk_new w (.cells #[.int .i64 n, .int .i64 f, .int .i64 s, .int .i64 dl, .int .i64 ks, .int .i64 ee, .int .i64 wd, .int .i64 rh, .int .i64 sl, .int .i64 cp] 23 (0, 0))) hb; have c0 : w1.cell? ⟨w.heap.size, 0, none⟩ = some (.int .i64 n) := (blk_cell hbk 0).trans rfl)))
  go_ret2
  exact ⟨rfl, below_step (below_alloc (Below.refl _ _) _) hb⟩
theorem rnew_not (n f s dl ks ee wd rh sl cp i : Int) (w : World) (h : ¬ (Ok n f s dl ks ee wd rh sl cp ∧ 0 ≤ i ∧ i < n)) : Calls Try.prog 18 #[.agg #[.int .i64 n, .int .i64 f, .int .i64 s, .int .i64 dl, .int .i64 ks, .int .i64 ee, .int .i64 wd, .int .i64 rh, .int .i64 sl, .int .i64 cp], .int .i64 i] w fun en w' => en = .returned (.tuple #[.pointer none, .int .i64 1]) ∧ Below w.heap.size w w' := by
  by_cases hk : Ok n f s dl ks ee wd rh sl cp
  · by_cases i0 : 0 ≤ i
    · exact rnew_high n f s dl ks ee wd rh sl cp i w hk i0 (by by_cases h1 : i < n; exact absurd ⟨hk, i0, h1⟩ h; omega)
    · exact rnew_low n f s dl ks ee wd rh sl cp i w hk (by omega)
  · exact rnew_bad n f s dl ks ee wd rh sl cp i w hk
set_option maxRecDepth 100000 in
set_option maxHeartbeats 4000000 in
theorem rr_x0 (g : Nat) (n f s dl ks ee wd rh sl cp i md id near x : Int) (ag : Bool) (z w : World) (hI : IsS53 z w g n f s dl ks ee wd rh sl cp i md id) (hB : Below z.heap.size z w) (hx : x = 0) (hn : carillonref28_Machine_next.f 1 n f s dl ks ee wd rh sl cp i md id near ag = some (x, n, f, s, dl, ks, ee, wd, rh, sl, cp, i, md, id)) : Calls Try.prog 21 #[.pointer (some ⟨g, 0, none⟩), .int .i64 near, .bool ag] w fun en w' => en = .returned (.int .i64 x) ∧ IsS53 z w' g n f s dl ks ee wd rh sl cp i x id ∧ Below z.heap.size z w' ∧ KeepBut w w' g none := by
  have HI := Aside0.mk hI
  have HB := Aside0.mk hB
  have HN := Aside0.mk hn
  clear hI hB hn
  subst hx
  go_enter Try.func21, Try.ntmps21
  go_wp2_with (first | (go_at_call 34; go_loud (refine (carillonref28_Machine_next.calls 1 g n f s dl ks ee wd rh sl cp i md id near ag 0 n f s dl ks ee wd rh sl cp i md id z w HI.out HB.out HN.out).mono ?_; rintro en w1 ⟨rfl, a1, a2, a3⟩; have f11 : w1.frozen? ⟨g, 11, none⟩ = false := blk_frozen a1.1 11; have f12 : w1.frozen? ⟨g, 12, none⟩ = false := blk_frozen a1.1 12; have k0 : w1.cell? ⟨g, 0, none⟩ = some (.int .i64 n) := (blk_cell a1.1 0).trans rfl; have k1 : w1.cell? ⟨g, 1, none⟩ = some (.int .i64 f) := (blk_cell a1.1 1).trans rfl; have k2 : w1.cell? ⟨g, 2, none⟩ = some (.int .i64 s) := (blk_cell a1.1 2).trans rfl; have k3 : w1.cell? ⟨g, 3, none⟩ = some (.int .i64 dl) := (blk_cell a1.1 3).trans rfl; have k4 : w1.cell? ⟨g, 4, none⟩ = some (.int .i64 ks) := (blk_cell a1.1 4).trans rfl; have k5 : w1.cell? ⟨g, 5, none⟩ = some (.int .i64 ee) := (blk_cell a1.1 5).trans rfl; have k6 : w1.cell? ⟨g, 6, none⟩ = some (.int .i64 wd) := (blk_cell a1.1 6).trans rfl; have k7 : w1.cell? ⟨g, 7, none⟩ = some (.int .i64 rh) := (blk_cell a1.1 7).trans rfl; have k8 : w1.cell? ⟨g, 8, none⟩ = some (.int .i64 sl) := (blk_cell a1.1 8).trans rfl; have k9 : w1.cell? ⟨g, 9, none⟩ = some (.int .i64 cp) := (blk_cell a1.1 9).trans rfl; have k10 : w1.cell? ⟨g, 10, none⟩ = some (.int .i64 i) := (blk_cell a1.1 10).trans rfl; have k11 : w1.cell? ⟨g, 11, none⟩ = some (.int .i64 md) := (blk_cell a1.1 11).trans rfl; have k12 : w1.cell? ⟨g, 12, none⟩ = some (.int .i64 id) := (blk_cell a1.1 12).trans rfl; have J1 := Aside0.mk a1; have J2 := Aside0.mk a2; have J3 := Aside0.mk a3; clear a1 a2 a3)))
  go_ret
  exact ⟨rfl, IsS53.set_11 J1.out _, J2.out.setCell J1.out.2 _, J3.out.set_ _ _⟩
set_option maxRecDepth 100000 in
set_option maxHeartbeats 4000000 in
theorem rr_x1 (g : Nat) (n f s dl ks ee wd rh sl cp i md id near x : Int) (ag : Bool) (z w : World) (hI : IsS53 z w g n f s dl ks ee wd rh sl cp i md id) (hB : Below z.heap.size z w) (hx : x = 1) (hn : carillonref28_Machine_next.f 1 n f s dl ks ee wd rh sl cp i md id near ag = some (x, n, f, s, dl, ks, ee, wd, rh, sl, cp, i, md, id)) : Calls Try.prog 21 #[.pointer (some ⟨g, 0, none⟩), .int .i64 near, .bool ag] w fun en w' => en = .returned (.int .i64 x) ∧ IsS53 z w' g n f s dl ks ee wd rh sl cp i x id ∧ Below z.heap.size z w' ∧ KeepBut w w' g none := by
  have HI := Aside0.mk hI
  have HB := Aside0.mk hB
  have HN := Aside0.mk hn
  clear hI hB hn
  subst hx
  go_enter Try.func21, Try.ntmps21
  go_wp2_with (first | (go_at_call 34; go_loud (refine (carillonref28_Machine_next.calls 1 g n f s dl ks ee wd rh sl cp i md id near ag 1 n f s dl ks ee wd rh sl cp i md id z w HI.out HB.out HN.out).mono ?_; rintro en w1 ⟨rfl, a1, a2, a3⟩; have f11 : w1.frozen? ⟨g, 11, none⟩ = false := blk_frozen a1.1 11; have f12 : w1.frozen? ⟨g, 12, none⟩ = false := blk_frozen a1.1 12; have k0 : w1.cell? ⟨g, 0, none⟩ = some (.int .i64 n) := (blk_cell a1.1 0).trans rfl; have k1 : w1.cell? ⟨g, 1, none⟩ = some (.int .i64 f) := (blk_cell a1.1 1).trans rfl; have k2 : w1.cell? ⟨g, 2, none⟩ = some (.int .i64 s) := (blk_cell a1.1 2).trans rfl; have k3 : w1.cell? ⟨g, 3, none⟩ = some (.int .i64 dl) := (blk_cell a1.1 3).trans rfl; have k4 : w1.cell? ⟨g, 4, none⟩ = some (.int .i64 ks) := (blk_cell a1.1 4).trans rfl; have k5 : w1.cell? ⟨g, 5, none⟩ = some (.int .i64 ee) := (blk_cell a1.1 5).trans rfl; have k6 : w1.cell? ⟨g, 6, none⟩ = some (.int .i64 wd) := (blk_cell a1.1 6).trans rfl; have k7 : w1.cell? ⟨g, 7, none⟩ = some (.int .i64 rh) := (blk_cell a1.1 7).trans rfl; have k8 : w1.cell? ⟨g, 8, none⟩ = some (.int .i64 sl) := (blk_cell a1.1 8).trans rfl; have k9 : w1.cell? ⟨g, 9, none⟩ = some (.int .i64 cp) := (blk_cell a1.1 9).trans rfl; have k10 : w1.cell? ⟨g, 10, none⟩ = some (.int .i64 i) := (blk_cell a1.1 10).trans rfl; have k11 : w1.cell? ⟨g, 11, none⟩ = some (.int .i64 md) := (blk_cell a1.1 11).trans rfl; have k12 : w1.cell? ⟨g, 12, none⟩ = some (.int .i64 id) := (blk_cell a1.1 12).trans rfl; have J1 := Aside0.mk a1; have J2 := Aside0.mk a2; have J3 := Aside0.mk a3; clear a1 a2 a3)))
  go_ret
  exact ⟨rfl, IsS53.set_11 J1.out _, J2.out.setCell J1.out.2 _, J3.out.set_ _ _⟩
set_option maxRecDepth 100000 in
set_option maxHeartbeats 4000000 in
theorem rr_x4 (g : Nat) (n f s dl ks ee wd rh sl cp i md id near x : Int) (ag : Bool) (z w : World) (hI : IsS53 z w g n f s dl ks ee wd rh sl cp i md id) (hB : Below z.heap.size z w) (hx : x = 4) (hn : carillonref28_Machine_next.f 1 n f s dl ks ee wd rh sl cp i md id near ag = some (x, n, f, s, dl, ks, ee, wd, rh, sl, cp, i, md, id)) : Calls Try.prog 21 #[.pointer (some ⟨g, 0, none⟩), .int .i64 near, .bool ag] w fun en w' => en = .returned (.int .i64 x) ∧ IsS53 z w' g n f s dl ks ee wd rh sl cp i x 0 ∧ Below z.heap.size z w' ∧ KeepBut w w' g none := by
  have HI := Aside0.mk hI
  have HB := Aside0.mk hB
  have HN := Aside0.mk hn
  clear hI hB hn
  subst hx
  go_enter Try.func21, Try.ntmps21
  go_wp2_with (first | (go_at_call 34; go_loud (refine (carillonref28_Machine_next.calls 1 g n f s dl ks ee wd rh sl cp i md id near ag 4 n f s dl ks ee wd rh sl cp i md id z w HI.out HB.out HN.out).mono ?_; rintro en w1 ⟨rfl, a1, a2, a3⟩; have f11 : w1.frozen? ⟨g, 11, none⟩ = false := blk_frozen a1.1 11; have f12 : w1.frozen? ⟨g, 12, none⟩ = false := blk_frozen a1.1 12; have k0 : w1.cell? ⟨g, 0, none⟩ = some (.int .i64 n) := (blk_cell a1.1 0).trans rfl; have k1 : w1.cell? ⟨g, 1, none⟩ = some (.int .i64 f) := (blk_cell a1.1 1).trans rfl; have k2 : w1.cell? ⟨g, 2, none⟩ = some (.int .i64 s) := (blk_cell a1.1 2).trans rfl; have k3 : w1.cell? ⟨g, 3, none⟩ = some (.int .i64 dl) := (blk_cell a1.1 3).trans rfl; have k4 : w1.cell? ⟨g, 4, none⟩ = some (.int .i64 ks) := (blk_cell a1.1 4).trans rfl; have k5 : w1.cell? ⟨g, 5, none⟩ = some (.int .i64 ee) := (blk_cell a1.1 5).trans rfl; have k6 : w1.cell? ⟨g, 6, none⟩ = some (.int .i64 wd) := (blk_cell a1.1 6).trans rfl; have k7 : w1.cell? ⟨g, 7, none⟩ = some (.int .i64 rh) := (blk_cell a1.1 7).trans rfl; have k8 : w1.cell? ⟨g, 8, none⟩ = some (.int .i64 sl) := (blk_cell a1.1 8).trans rfl; have k9 : w1.cell? ⟨g, 9, none⟩ = some (.int .i64 cp) := (blk_cell a1.1 9).trans rfl; have k10 : w1.cell? ⟨g, 10, none⟩ = some (.int .i64 i) := (blk_cell a1.1 10).trans rfl; have k11 : w1.cell? ⟨g, 11, none⟩ = some (.int .i64 md) := (blk_cell a1.1 11).trans rfl; have k12 : w1.cell? ⟨g, 12, none⟩ = some (.int .i64 id) := (blk_cell a1.1 12).trans rfl; have J1 := Aside0.mk a1; have J2 := Aside0.mk a2; have J3 := Aside0.mk a3; clear a1 a2 a3)))
  go_ret
  exact ⟨rfl, IsS53.set_12 (IsS53.set_11 J1.out _) _, (J2.out.setCell J1.out.2 _).setCell J1.out.2 _, (J3.out.set_ _ _).set_ _ _⟩
set_option maxRecDepth 100000 in
set_option maxHeartbeats 4000000 in
theorem rr_on (g : Nat) (n f s dl ks ee wd rh sl cp i md id near x : Int) (ag : Bool) (z w : World) (hI : IsS53 z w g n f s dl ks ee wd rh sl cp i md id) (hB : Below z.heap.size z w) (hk : Ok n f s dl ks ee wd rh sl cp) (i0 : 0 ≤ i) (i1 : i < n) (j0 : 0 ≤ id) (jm : id ≤ 1000000) (hx : x = 2 ∨ x = 3) (hj : id + 1 < pat n s dl wd rh sl i) (hn : carillonref28_Machine_next.f 1 n f s dl ks ee wd rh sl cp i md id near ag = some (x, n, f, s, dl, ks, ee, wd, rh, sl, cp, i, md, id)) : Calls Try.prog 21 #[.pointer (some ⟨g, 0, none⟩), .int .i64 near, .bool ag] w fun en w' => en = .returned (.int .i64 x) ∧ IsS53 z w' g n f s dl ks ee wd rh sl cp i x (id + 1) ∧ Below z.heap.size z w' ∧ KeepBut w w' g none := by
  have HI := Aside0.mk hI
  have HB := Aside0.mk hB
  have HN := Aside0.mk hn
  obtain ⟨p, hp⟩ : ∃ p, pat n s dl wd rh sl i = p := ⟨_, rfl⟩
  have HP := Aside0.mk (show carillonref16_Patience.f 1 n f s dl ks ee wd rh sl cp i = some p by rw [← hp]; exact rpatience_in 0 n f s dl ks ee wd rh sl cp i hk i0 i1)
  rw [hp] at hj
  have hpb : decide (p ≤ id + 1) = false := decide_eq_false (by omega)
  have v1 : IntKind.i64.wrap (id + 1) = id + 1 := by rw [IntKind.wrap_i64]; omega
  have V := Aside0.mk v1
  have x0 : (x == 0) = false := beq_eq_false_iff_ne.2 (by omega)
  have x1 : (x == 1) = false := beq_eq_false_iff_ne.2 (by omega)
  have x4 : (x == 4) = false := beq_eq_false_iff_ne.2 (by omega)
  clear hI hB hn hk hp v1 hx
  go_enter Try.func21, Try.ntmps21
  go_upto_region 4 with (first | (go_at_call 34; go_loud (refine (carillonref28_Machine_next.calls 1 g n f s dl ks ee wd rh sl cp i md id near ag x n f s dl ks ee wd rh sl cp i md id z w HI.out HB.out HN.out).mono ?_; rintro en w1 ⟨rfl, a1, a2, a3⟩; have f11 : w1.frozen? ⟨g, 11, none⟩ = false := blk_frozen a1.1 11; have f12 : w1.frozen? ⟨g, 12, none⟩ = false := blk_frozen a1.1 12; have k0 : w1.cell? ⟨g, 0, none⟩ = some (.int .i64 n) := (blk_cell a1.1 0).trans rfl; have k1 : w1.cell? ⟨g, 1, none⟩ = some (.int .i64 f) := (blk_cell a1.1 1).trans rfl; have k2 : w1.cell? ⟨g, 2, none⟩ = some (.int .i64 s) := (blk_cell a1.1 2).trans rfl; have k3 : w1.cell? ⟨g, 3, none⟩ = some (.int .i64 dl) := (blk_cell a1.1 3).trans rfl; have k4 : w1.cell? ⟨g, 4, none⟩ = some (.int .i64 ks) := (blk_cell a1.1 4).trans rfl; have k5 : w1.cell? ⟨g, 5, none⟩ = some (.int .i64 ee) := (blk_cell a1.1 5).trans rfl; have k6 : w1.cell? ⟨g, 6, none⟩ = some (.int .i64 wd) := (blk_cell a1.1 6).trans rfl; have k7 : w1.cell? ⟨g, 7, none⟩ = some (.int .i64 rh) := (blk_cell a1.1 7).trans rfl; have k8 : w1.cell? ⟨g, 8, none⟩ = some (.int .i64 sl) := (blk_cell a1.1 8).trans rfl; have k9 : w1.cell? ⟨g, 9, none⟩ = some (.int .i64 cp) := (blk_cell a1.1 9).trans rfl; have k10 : w1.cell? ⟨g, 10, none⟩ = some (.int .i64 i) := (blk_cell a1.1 10).trans rfl; have k11 : w1.cell? ⟨g, 11, none⟩ = some (.int .i64 md) := (blk_cell a1.1 11).trans rfl; have k12 : w1.cell? ⟨g, 12, none⟩ = some (.int .i64 id) := (blk_cell a1.1 12).trans rfl; have J1 := Aside0.mk a1; have J2 := Aside0.mk a2; have J3 := Aside0.mk a3; clear a1 a2 a3)))
  refine wp_gen (fun W => IsS53 z W g n f s dl ks ee wd rh sl cp i x (id + 1) ∧ Below z.heap.size z W ∧ KeepBut w W g none) ⟨IsS53.set_12 (IsS53.set_11 J1.out _) _, (J2.out.setCell J1.out.2 _).setCell J1.out.2 _, (J3.out.set_ _ _).set_ _ _⟩ ?_
  rintro W ⟨hI2, hB2, hK2⟩
  clear HI HB HN J1 J2 J3 k0 k1 k2 k3 k4 k5 k6 k7 k8 k9 k10 k11 k12 f11 f12
  have d0 : W.cell? ⟨g, 0, none⟩ = some (.int .i64 n) := (blk_cell hI2.1 0).trans rfl
  have d1 : W.cell? ⟨g, 1, none⟩ = some (.int .i64 f) := (blk_cell hI2.1 1).trans rfl
  have d2 : W.cell? ⟨g, 2, none⟩ = some (.int .i64 s) := (blk_cell hI2.1 2).trans rfl
  have d3 : W.cell? ⟨g, 3, none⟩ = some (.int .i64 dl) := (blk_cell hI2.1 3).trans rfl
  have d4 : W.cell? ⟨g, 4, none⟩ = some (.int .i64 ks) := (blk_cell hI2.1 4).trans rfl
  have d5 : W.cell? ⟨g, 5, none⟩ = some (.int .i64 ee) := (blk_cell hI2.1 5).trans rfl
  have d6 : W.cell? ⟨g, 6, none⟩ = some (.int .i64 wd) := (blk_cell hI2.1 6).trans rfl
  have d7 : W.cell? ⟨g, 7, none⟩ = some (.int .i64 rh) := (blk_cell hI2.1 7).trans rfl
  have d8 : W.cell? ⟨g, 8, none⟩ = some (.int .i64 sl) := (blk_cell hI2.1 8).trans rfl
  have d9 : W.cell? ⟨g, 9, none⟩ = some (.int .i64 cp) := (blk_cell hI2.1 9).trans rfl
  have d10 : W.cell? ⟨g, 10, none⟩ = some (.int .i64 i) := (blk_cell hI2.1 10).trans rfl
  have d11 : W.cell? ⟨g, 11, none⟩ = some (.int .i64 x) := (blk_cell hI2.1 11).trans rfl
  have d12 : W.cell? ⟨g, 12, none⟩ = some (.int .i64 (id + 1)) := (blk_cell hI2.1 12).trans rfl
  have HI := Aside0.mk hI2
  have HB := Aside0.mk hB2
  have HK2 := Aside0.mk hK2
  clear hI2 hB2 hK2
  have q1 := Aside0.mk (IsS53.drew HI.out)
  have q2 := Aside0.mk (below_drew HB.out)
  have q3 := Aside0.mk (show KeepBut w W.drew g none from HK2.out)
  go_region_held3 (fun W => W.cell? ⟨g, 0, none⟩ = some (.int .i64 n) ∧ W.cell? ⟨g, 1, none⟩ = some (.int .i64 f) ∧ W.cell? ⟨g, 2, none⟩ = some (.int .i64 s) ∧ W.cell? ⟨g, 3, none⟩ = some (.int .i64 dl) ∧ W.cell? ⟨g, 4, none⟩ = some (.int .i64 ks) ∧ W.cell? ⟨g, 5, none⟩ = some (.int .i64 ee) ∧ W.cell? ⟨g, 6, none⟩ = some (.int .i64 wd) ∧ W.cell? ⟨g, 7, none⟩ = some (.int .i64 rh) ∧ W.cell? ⟨g, 8, none⟩ = some (.int .i64 sl) ∧ W.cell? ⟨g, 9, none⟩ = some (.int .i64 cp) ∧ W.cell? ⟨g, 10, none⟩ = some (.int .i64 i) ∧ W.cell? ⟨g, 11, none⟩ = some (.int .i64 x) ∧ W.cell? ⟨g, 12, none⟩ = some (.int .i64 (id + 1)) ∧ Aside0 (IsS53 z W g n f s dl ks ee wd rh sl cp i x (id + 1)) ∧ Aside0 (Below z.heap.size z W) ∧ Aside0 (KeepBut w W g none)) (go_keep) (first | (go_at_call 35; go_loud (refine (carillonref16_Patience.calls 1 n f s dl ks ee wd rh sl cp i p _ HP.out).mono ?_; rintro e w2 ⟨rfl, hb⟩; have e1 : Aside0 (IsS53 z w2 g n f s dl ks ee wd rh sl cp i x (id + 1)) := ⟨blk_below q1.out.1 hb, q1.out.2⟩; have e2 := Aside0.mk (below_step q2.out hb); have e3 := Aside0.mk (q3.out.trans (KeepBut.of_below hb g none) (Or.inl rfl)); have m0 : w2.cell? ⟨g, 0, none⟩ = some (.int .i64 n) := (blk_cell e1.out.1 0).trans rfl; have m1 : w2.cell? ⟨g, 1, none⟩ = some (.int .i64 f) := (blk_cell e1.out.1 1).trans rfl; have m2 : w2.cell? ⟨g, 2, none⟩ = some (.int .i64 s) := (blk_cell e1.out.1 2).trans rfl; have m3 : w2.cell? ⟨g, 3, none⟩ = some (.int .i64 dl) := (blk_cell e1.out.1 3).trans rfl; have m4 : w2.cell? ⟨g, 4, none⟩ = some (.int .i64 ks) := (blk_cell e1.out.1 4).trans rfl; have m5 : w2.cell? ⟨g, 5, none⟩ = some (.int .i64 ee) := (blk_cell e1.out.1 5).trans rfl; have m6 : w2.cell? ⟨g, 6, none⟩ = some (.int .i64 wd) := (blk_cell e1.out.1 6).trans rfl; have m7 : w2.cell? ⟨g, 7, none⟩ = some (.int .i64 rh) := (blk_cell e1.out.1 7).trans rfl; have m8 : w2.cell? ⟨g, 8, none⟩ = some (.int .i64 sl) := (blk_cell e1.out.1 8).trans rfl; have m9 : w2.cell? ⟨g, 9, none⟩ = some (.int .i64 cp) := (blk_cell e1.out.1 9).trans rfl; have m10 : w2.cell? ⟨g, 10, none⟩ = some (.int .i64 i) := (blk_cell e1.out.1 10).trans rfl; have m11 : w2.cell? ⟨g, 11, none⟩ = some (.int .i64 x) := (blk_cell e1.out.1 11).trans rfl; have m12 : w2.cell? ⟨g, 12, none⟩ = some (.int .i64 (id + 1)) := (blk_cell e1.out.1 12).trans rfl; have fz11 : w2.frozen? ⟨g, 11, none⟩ = false := blk_frozen e1.out.1 11; clear hb)))
  go_wp2
  go_ret
  exact ⟨rfl, e1.out, e2.out, e3.out⟩
set_option maxRecDepth 100000 in
set_option maxHeartbeats 4000000 in
theorem rr_off (g : Nat) (n f s dl ks ee wd rh sl cp i md id near x : Int) (ag : Bool) (z w : World) (hI : IsS53 z w g n f s dl ks ee wd rh sl cp i md id) (hB : Below z.heap.size z w) (hk : Ok n f s dl ks ee wd rh sl cp) (i0 : 0 ≤ i) (i1 : i < n) (j0 : 0 ≤ id) (jm : id ≤ 1000000) (hx : x = 2 ∨ x = 3) (hj : pat n s dl wd rh sl i ≤ id + 1) (hn : carillonref28_Machine_next.f 1 n f s dl ks ee wd rh sl cp i md id near ag = some (x, n, f, s, dl, ks, ee, wd, rh, sl, cp, i, md, id)) : Calls Try.prog 21 #[.pointer (some ⟨g, 0, none⟩), .int .i64 near, .bool ag] w fun en w' => en = .returned (.int .i64 1) ∧ IsS53 z w' g n f s dl ks ee wd rh sl cp i 1 (id + 1) ∧ Below z.heap.size z w' ∧ KeepBut w w' g none := by
  have HI := Aside0.mk hI
  have HB := Aside0.mk hB
  have HN := Aside0.mk hn
  obtain ⟨p, hp⟩ : ∃ p, pat n s dl wd rh sl i = p := ⟨_, rfl⟩
  have HP := Aside0.mk (show carillonref16_Patience.f 1 n f s dl ks ee wd rh sl cp i = some p by rw [← hp]; exact rpatience_in 0 n f s dl ks ee wd rh sl cp i hk i0 i1)
  rw [hp] at hj
  have hpb : decide (p ≤ id + 1) = true := decide_eq_true (by omega)
  have v1 : IntKind.i64.wrap (id + 1) = id + 1 := by rw [IntKind.wrap_i64]; omega
  have V := Aside0.mk v1
  have x0 : (x == 0) = false := beq_eq_false_iff_ne.2 (by omega)
  have x1 : (x == 1) = false := beq_eq_false_iff_ne.2 (by omega)
  have x4 : (x == 4) = false := beq_eq_false_iff_ne.2 (by omega)
  clear hI hB hn hk hp v1 hx
  go_enter Try.func21, Try.ntmps21
  go_upto_region 4 with (first | (go_at_call 34; go_loud (refine (carillonref28_Machine_next.calls 1 g n f s dl ks ee wd rh sl cp i md id near ag x n f s dl ks ee wd rh sl cp i md id z w HI.out HB.out HN.out).mono ?_; rintro en w1 ⟨rfl, a1, a2, a3⟩; have f11 : w1.frozen? ⟨g, 11, none⟩ = false := blk_frozen a1.1 11; have f12 : w1.frozen? ⟨g, 12, none⟩ = false := blk_frozen a1.1 12; have k0 : w1.cell? ⟨g, 0, none⟩ = some (.int .i64 n) := (blk_cell a1.1 0).trans rfl; have k1 : w1.cell? ⟨g, 1, none⟩ = some (.int .i64 f) := (blk_cell a1.1 1).trans rfl; have k2 : w1.cell? ⟨g, 2, none⟩ = some (.int .i64 s) := (blk_cell a1.1 2).trans rfl; have k3 : w1.cell? ⟨g, 3, none⟩ = some (.int .i64 dl) := (blk_cell a1.1 3).trans rfl; have k4 : w1.cell? ⟨g, 4, none⟩ = some (.int .i64 ks) := (blk_cell a1.1 4).trans rfl; have k5 : w1.cell? ⟨g, 5, none⟩ = some (.int .i64 ee) := (blk_cell a1.1 5).trans rfl; have k6 : w1.cell? ⟨g, 6, none⟩ = some (.int .i64 wd) := (blk_cell a1.1 6).trans rfl; have k7 : w1.cell? ⟨g, 7, none⟩ = some (.int .i64 rh) := (blk_cell a1.1 7).trans rfl; have k8 : w1.cell? ⟨g, 8, none⟩ = some (.int .i64 sl) := (blk_cell a1.1 8).trans rfl; have k9 : w1.cell? ⟨g, 9, none⟩ = some (.int .i64 cp) := (blk_cell a1.1 9).trans rfl; have k10 : w1.cell? ⟨g, 10, none⟩ = some (.int .i64 i) := (blk_cell a1.1 10).trans rfl; have k11 : w1.cell? ⟨g, 11, none⟩ = some (.int .i64 md) := (blk_cell a1.1 11).trans rfl; have k12 : w1.cell? ⟨g, 12, none⟩ = some (.int .i64 id) := (blk_cell a1.1 12).trans rfl; have J1 := Aside0.mk a1; have J2 := Aside0.mk a2; have J3 := Aside0.mk a3; clear a1 a2 a3)))
  refine wp_gen (fun W => IsS53 z W g n f s dl ks ee wd rh sl cp i x (id + 1) ∧ Below z.heap.size z W ∧ KeepBut w W g none) ⟨IsS53.set_12 (IsS53.set_11 J1.out _) _, (J2.out.setCell J1.out.2 _).setCell J1.out.2 _, (J3.out.set_ _ _).set_ _ _⟩ ?_
  rintro W ⟨hI2, hB2, hK2⟩
  clear HI HB HN J1 J2 J3 k0 k1 k2 k3 k4 k5 k6 k7 k8 k9 k10 k11 k12 f11 f12
  have d0 : W.cell? ⟨g, 0, none⟩ = some (.int .i64 n) := (blk_cell hI2.1 0).trans rfl
  have d1 : W.cell? ⟨g, 1, none⟩ = some (.int .i64 f) := (blk_cell hI2.1 1).trans rfl
  have d2 : W.cell? ⟨g, 2, none⟩ = some (.int .i64 s) := (blk_cell hI2.1 2).trans rfl
  have d3 : W.cell? ⟨g, 3, none⟩ = some (.int .i64 dl) := (blk_cell hI2.1 3).trans rfl
  have d4 : W.cell? ⟨g, 4, none⟩ = some (.int .i64 ks) := (blk_cell hI2.1 4).trans rfl
  have d5 : W.cell? ⟨g, 5, none⟩ = some (.int .i64 ee) := (blk_cell hI2.1 5).trans rfl
  have d6 : W.cell? ⟨g, 6, none⟩ = some (.int .i64 wd) := (blk_cell hI2.1 6).trans rfl
  have d7 : W.cell? ⟨g, 7, none⟩ = some (.int .i64 rh) := (blk_cell hI2.1 7).trans rfl
  have d8 : W.cell? ⟨g, 8, none⟩ = some (.int .i64 sl) := (blk_cell hI2.1 8).trans rfl
  have d9 : W.cell? ⟨g, 9, none⟩ = some (.int .i64 cp) := (blk_cell hI2.1 9).trans rfl
  have d10 : W.cell? ⟨g, 10, none⟩ = some (.int .i64 i) := (blk_cell hI2.1 10).trans rfl
  have d11 : W.cell? ⟨g, 11, none⟩ = some (.int .i64 x) := (blk_cell hI2.1 11).trans rfl
  have d12 : W.cell? ⟨g, 12, none⟩ = some (.int .i64 (id + 1)) := (blk_cell hI2.1 12).trans rfl
  have HI := Aside0.mk hI2
  have HB := Aside0.mk hB2
  have HK2 := Aside0.mk hK2
  clear hI2 hB2 hK2
  have q1 := Aside0.mk (IsS53.drew HI.out)
  have q2 := Aside0.mk (below_drew HB.out)
  have q3 := Aside0.mk (show KeepBut w W.drew g none from HK2.out)
  go_region_held3 (fun W => W.cell? ⟨g, 0, none⟩ = some (.int .i64 n) ∧ W.cell? ⟨g, 1, none⟩ = some (.int .i64 f) ∧ W.cell? ⟨g, 2, none⟩ = some (.int .i64 s) ∧ W.cell? ⟨g, 3, none⟩ = some (.int .i64 dl) ∧ W.cell? ⟨g, 4, none⟩ = some (.int .i64 ks) ∧ W.cell? ⟨g, 5, none⟩ = some (.int .i64 ee) ∧ W.cell? ⟨g, 6, none⟩ = some (.int .i64 wd) ∧ W.cell? ⟨g, 7, none⟩ = some (.int .i64 rh) ∧ W.cell? ⟨g, 8, none⟩ = some (.int .i64 sl) ∧ W.cell? ⟨g, 9, none⟩ = some (.int .i64 cp) ∧ W.cell? ⟨g, 10, none⟩ = some (.int .i64 i) ∧ W.cell? ⟨g, 11, none⟩ = some (.int .i64 x) ∧ W.cell? ⟨g, 12, none⟩ = some (.int .i64 (id + 1)) ∧ Aside0 (IsS53 z W g n f s dl ks ee wd rh sl cp i x (id + 1)) ∧ Aside0 (Below z.heap.size z W) ∧ Aside0 (KeepBut w W g none)) (go_keep) (first | (go_at_call 35; go_loud (refine (carillonref16_Patience.calls 1 n f s dl ks ee wd rh sl cp i p _ HP.out).mono ?_; rintro e w2 ⟨rfl, hb⟩; have e1 : Aside0 (IsS53 z w2 g n f s dl ks ee wd rh sl cp i x (id + 1)) := ⟨blk_below q1.out.1 hb, q1.out.2⟩; have e2 := Aside0.mk (below_step q2.out hb); have e3 := Aside0.mk (q3.out.trans (KeepBut.of_below hb g none) (Or.inl rfl)); have m0 : w2.cell? ⟨g, 0, none⟩ = some (.int .i64 n) := (blk_cell e1.out.1 0).trans rfl; have m1 : w2.cell? ⟨g, 1, none⟩ = some (.int .i64 f) := (blk_cell e1.out.1 1).trans rfl; have m2 : w2.cell? ⟨g, 2, none⟩ = some (.int .i64 s) := (blk_cell e1.out.1 2).trans rfl; have m3 : w2.cell? ⟨g, 3, none⟩ = some (.int .i64 dl) := (blk_cell e1.out.1 3).trans rfl; have m4 : w2.cell? ⟨g, 4, none⟩ = some (.int .i64 ks) := (blk_cell e1.out.1 4).trans rfl; have m5 : w2.cell? ⟨g, 5, none⟩ = some (.int .i64 ee) := (blk_cell e1.out.1 5).trans rfl; have m6 : w2.cell? ⟨g, 6, none⟩ = some (.int .i64 wd) := (blk_cell e1.out.1 6).trans rfl; have m7 : w2.cell? ⟨g, 7, none⟩ = some (.int .i64 rh) := (blk_cell e1.out.1 7).trans rfl; have m8 : w2.cell? ⟨g, 8, none⟩ = some (.int .i64 sl) := (blk_cell e1.out.1 8).trans rfl; have m9 : w2.cell? ⟨g, 9, none⟩ = some (.int .i64 cp) := (blk_cell e1.out.1 9).trans rfl; have m10 : w2.cell? ⟨g, 10, none⟩ = some (.int .i64 i) := (blk_cell e1.out.1 10).trans rfl; have m11 : w2.cell? ⟨g, 11, none⟩ = some (.int .i64 x) := (blk_cell e1.out.1 11).trans rfl; have m12 : w2.cell? ⟨g, 12, none⟩ = some (.int .i64 (id + 1)) := (blk_cell e1.out.1 12).trans rfl; have fz11 : w2.frozen? ⟨g, 11, none⟩ = false := blk_frozen e1.out.1 11; clear hb)))
  go_wp2
  go_ret
  exact ⟨rfl, IsS53.set_11 e1.out _, e2.out.setCell e1.out.2 _, e3.out.set_ _ _⟩
def nextF (n f md near : Int) (ag : Bool) : Int := if md = 0 ∨ md = 1 then md else stepF n f md near ag
theorem next_eq (n f s dl ks ee wd rh sl cp i md id near : Int) (ag : Bool) (hk : Ok n f s dl ks ee wd rh sl cp) (m0 : 0 ≤ md) (m1 : md ≤ 4) : carillonref28_Machine_next.f 1 n f s dl ks ee wd rh sl cp i md id near ag = some ((nextF n f md near ag), n, f, s, dl, ks, ee, wd, rh, sl, cp, i, md, id) := by
  obtain ⟨n0, n1, f0, f1⟩ := ok_n hk
  unfold carillonref28_Machine_next.f
  rw [w64 (n := n - f) (by omega) (by omega)]
  rcases five md m0 m1 with rfl | rfl | rfl | rfl | rfl
  · rw [if_neg (by omega), if_neg (by omega)]; rfl
  · rw [if_neg (by omega), if_neg (by omega)]; rfl
  · rw [if_pos rfl]
    by_cases he : n - f ≤ near
    · rw [if_pos he, show nextF n f 2 near ag = 3 by unfold nextF stepF; rw [if_neg (by omega), if_pos rfl, if_pos he]]
    · rw [if_neg he, show nextF n f 2 near ag = 2 by unfold nextF stepF; rw [if_neg (by omega), if_pos rfl, if_neg he]]
  · rw [if_neg (by omega), if_pos rfl]
    by_cases he : n - f ≤ near
    · rw [decide_eq_true (show near ≥ n - f from he), show nextF n f 3 near ag = (if ag then 4 else 3) by unfold nextF stepF; rw [if_neg (by omega), if_neg (by omega), if_pos he]]; cases ag <;> rfl
    · rw [decide_eq_false (show ¬ near ≥ n - f from he), show nextF n f 3 near ag = 2 by unfold nextF stepF; rw [if_neg (by omega), if_neg (by omega), if_neg he]]; rfl
  · rw [if_neg (by omega), if_neg (by omega)]
    by_cases he : n - f ≤ near
    · rw [decide_eq_true (show near ≥ n - f from he), show nextF n f 4 near ag = (if ag then 4 else 3) by unfold nextF stepF; rw [if_neg (by omega), if_neg (by omega), if_pos he]]; cases ag <;> rfl
    · rw [decide_eq_false (show ¬ near ≥ n - f from he), show nextF n f 4 near ag = 2 by unfold nextF stepF; rw [if_neg (by omega), if_neg (by omega), if_neg he]]; rfl
theorem rround_any (g : Nat) (n f s dl ks ee wd rh sl cp i md id near : Int) (ag : Bool) (z w : World) (hI : IsS53 z w g n f s dl ks ee wd rh sl cp i md id) (hB : Below z.heap.size z w) (hk : Ok n f s dl ks ee wd rh sl cp) (i0 : 0 ≤ i) (i1 : i < n) (j0 : 0 ≤ id) (jm : id ≤ 1000000) (m0 : 0 ≤ md) (m1 : md ≤ 4) : Calls Try.prog 21 #[.pointer (some ⟨g, 0, none⟩), .int .i64 near, .bool ag] w fun en w' => en = .returned (.int .i64 (roundF (pat n s dl wd rh sl i) n f md id near ag).1) ∧ IsS53 z w' g n f s dl ks ee wd rh sl cp i (roundF (pat n s dl wd rh sl i) n f md id near ag).1 (roundF (pat n s dl wd rh sl i) n f md id near ag).2 ∧ Below z.heap.size z w' ∧ KeepBut w w' g none := by
  have hn := next_eq n f s dl ks ee wd rh sl cp i md id near ag hk m0 m1
  by_cases h1 : md = 0 ∨ md = 1
  · have e : (roundF (pat n s dl wd rh sl i) n f md id near ag) = (md, id) := by unfold roundF; rw [if_pos h1]
    have e2 : (nextF n f md near ag) = md := by unfold nextF; rw [if_pos h1]
    rw [e2] at hn
    rw [e]
    rcases h1 with rfl | rfl
    · exact rr_x0 g n f s dl ks ee wd rh sl cp i 0 id near 0 ag z w hI hB rfl hn
    · exact rr_x1 g n f s dl ks ee wd rh sl cp i 1 id near 1 ag z w hI hB rfl hn
  · have e2 : (nextF n f md near ag) = stepF n f md near ag := by unfold nextF; rw [if_neg h1]
    have e : (roundF (pat n s dl wd rh sl i) n f md id near ag) = waitF (pat n s dl wd rh sl i) (stepF n f md near ag) id := by unfold roundF; rw [if_neg h1]
    have hs : 2 ≤ stepF n f md near ag ∧ stepF n f md near ag ≤ 4 := by unfold stepF; repeat' split <;> omega
    rw [e2] at hn
    rw [e]
    obtain ⟨x, hx⟩ : ∃ x, stepF n f md near ag = x := ⟨_, rfl⟩
    rw [hx] at hn hs ⊢
    by_cases h4 : x = 4
    · subst h4
      rw [show waitF (pat n s dl wd rh sl i) 4 id = (4, 0) by unfold waitF; rw [if_pos rfl]]
      exact rr_x4 g n f s dl ks ee wd rh sl cp i md id near 4 ag z w hI hB rfl hn
    · by_cases hj : pat n s dl wd rh sl i ≤ id + 1
      · rw [show waitF (pat n s dl wd rh sl i) x id = (1, id + 1) by unfold waitF; rw [if_neg h4, if_pos hj]]
        exact rr_off g n f s dl ks ee wd rh sl cp i md id near x ag z w hI hB hk i0 i1 j0 jm (by omega) hj hn
      · rw [show waitF (pat n s dl wd rh sl i) x id = (x, id + 1) by unfold waitF; rw [if_neg h4, if_neg hj]]
        exact rr_on g n f s dl ks ee wd rh sl cp i md id near x ag z w hI hB hk i0 i1 j0 jm (by omega) (by omega) hn
theorem rset_any (g : Nat) (n f s dl ks ee wd rh sl cp i md id r : Int) (z w : World) (hI : IsS53 z w g n f s dl ks ee wd rh sl cp i md id) (hB : Below z.heap.size z w) : Calls Try.prog 19 #[.pointer (some ⟨g, 0, none⟩), .int .i64 r] w fun en w' => en = .returned (.int .i64 (setF md id r).1) ∧ IsS53 z w' g n f s dl ks ee wd rh sl cp i (setF md id r).2.1 (setF md id r).2.2 ∧ Below z.heap.size z w' ∧ KeepBut w w' g none := by
  refine carillonref28_Machine_Set.calls 1 g n f s dl ks ee wd rh sl cp i md id r _ n f s dl ks ee wd rh sl cp i _ _ z w hI hB ?_
  unfold carillonref28_Machine_Set.f setF
  by_cases h0 : r < 0
  · rw [if_pos h0, if_pos (Or.inl h0)]; rfl
  · rw [if_neg h0]
    by_cases h1 : 1048576 ≤ r
    · rw [decide_eq_true (show r ≥ 1048576 from h1), if_pos (Or.inr h1)]; rfl
    · rw [decide_eq_false (show ¬ r ≥ 1048576 from h1), if_neg (by omega)]
      by_cases hm : md = 1
      · subst hm; rfl
      · rw [if_neg hm]; simp only [carillonref28_Machine_Set.j0, Bool.false_eq_true, if_false]; rw [if_neg hm]
theorem rwatch_any (g : Nat) (n f s dl ks ee wd rh sl cp i md id near : Int) (z w : World) (hI : IsS53 z w g n f s dl ks ee wd rh sl cp i md id) (hB : Below z.heap.size z w) (hk : Ok n f s dl ks ee wd rh sl cp) (m0 : 0 ≤ md) (m1 : md ≤ 4) : Calls Try.prog 20 #[.pointer (some ⟨g, 0, none⟩), .int .i64 near] w fun en w' => en = .returned (.int .i64 (watchF n f md near)) ∧ IsS53 z w' g n f s dl ks ee wd rh sl cp i (watchF n f md near) id ∧ Below z.heap.size z w' ∧ KeepBut w w' g none := by
  obtain ⟨n0, n1, f0, f1⟩ := ok_n hk
  refine carillonref28_Machine_Watch.calls g n f s dl ks ee wd rh sl cp i md id near _ n f s dl ks ee wd rh sl cp i _ _ z w hI hB ?_
  unfold carillonref28_Machine_Watch.f watchF
  rw [w64 (n := n - f) (by omega) (by omega)]
  by_cases h3 : 3 ≤ md
  · rw [if_pos h3]
    by_cases he : near < n - f
    · rw [if_pos he, if_pos ⟨h3, he⟩]
    · rw [if_neg he, if_neg (by omega)]
  · rw [if_neg h3, if_neg (by omega)]
end Go.Proofs.Ytiiaooaigeenoaa.Mode8
