/- What a round comes to. -/
import Derived.Test.YtiiaooaigeenoaaProg
import Derived.Below
import Derived.Deep.Draws
import Derived.Deep.AppendLies
import Derived.Maps.AppendAt
import Derived.OwnWalk
import Derived.Laws.BytesArg
import Derived.Laws.MakeOwn
import Derived.Laws.OwnMore
import Derived.Deep.OwnRows
import Derived.Tactics
import Derived.Lib.ConvBytes
import Derived.Laws.Slices
import Derived.WalkKit
import Derived.KernelRfl
import Derived.RowKit3
import Derived.Deep.LoopGhost
import Derived.Deep.QuietTactic
import Derived.BigQuiet
import Derived.WideLaws
import Derived.Deep.DeepCutAuto
import Derived.Deep.CutBlock
import Derived.Deep.RegionHeld3
import Derived.Laws.Rows
import Derived.Lib.AppendStr
import Derived.ArgAppend
import Derived.Laws.IdiomCopy
import Derived.OrdersHeld
import Derived.Laws.BitsLemmas
import Derived.RowKit
import Derived.RegionTactic
import Derived.ChangeAlike
import Derived.Outline
import Derived.LoopTactic
import Derived.WalkSpells
import Derived.WalkLawsBesides
import Derived.Lib.Hide
import Derived.StillTailTactics
import Derived.Deep.RegionWith
import Derived.Deep.RegionLaw
import Derived.Deep.DeepFit
import Derived.Deep.DeepMust
import Derived.Test.YtiiaooaigeenoaaWWords
import Derived.Test.YtiiaooaigeenoaaWLast
import Derived.Test.YtiiaooaigeenoaaWTab
import Derived.Test.YtiiaooaigeenoaaWFour
import Derived.Test.YtiiaooaigeenoaaWQPut
import Derived.Test.YtiiaooaigeenoaaWApart
import Derived.Test.YtiiaooaigeenoaaWArr
import Derived.Test.YtiiaooaigeenoaaWZeros
import Derived.Test.YtiiaooaigeenoaaWFoot
import Derived.Test.YtiiaooaigeenoaaWKept
import Derived.Test.YtiiaooaigeenoaaWShare
import Derived.Test.YtiiaooaigeenoaaWN
import Derived.Test.YtiiaooaigeenoaaWFootNe
import Derived.Test.YtiiaooaigeenoaaWAt
import Derived.Test.YtiiaooaigeenoaaWEqStruct
import Derived.Test.YtiiaooaigeenoaaWRepsOne
import Derived.Test.YtiiaooaigeenoaaWInv
import Derived.Test.YtiiaooaigeenoaaWInvWords
import Derived.Test.YtiiaooaigeenoaaWGuard
import Derived.Test.YtiiaooaigeenoaaWNEv
import Derived.Test.YtiiaooaigeenoaaWMore
import Derived.Test.YtiiaooaigeenoaaMode1
namespace Go.Proofs.Ytiiaooaigeenoaa.Mode2
open Go.RowKit Go.Proofs.YtiiaooaigeenoaaW.PrintWords Go.Proofs.YtiiaooaigeenoaaW.PrintLast Go.Proofs.YtiiaooaigeenoaaW.PrintMore 
attribute [local go_sem] max2_int min2_int max_two min_two max_three min_three max_four min_four
set_option linter.unusedVariables false
set_option linter.unusedSimpArgs false
open Go.Proofs.Ytiiaooaigeenoaa.QBase Go.Proofs.Ytiiaooaigeenoaa.Sch Go.Proofs.Ytiiaooaigeenoaa.Mode1
def waitF (p md id : Int) : Int × Int := if md = 4 then (4, 0) else if p ≤ id + 1 then (1, id + 1) else (md, id + 1)
theorem wait_any (g : Nat) (n f s dl ks ee wd rh sl cp i md id : Int) (z w : World) (hI : IsS43 z w g n f s dl ks ee wd rh sl cp i md id true) (hB : Below z.heap.size z w) (hk : Ok n f s dl ks ee wd rh sl cp) (i0 : 0 ≤ i) (i1 : i < n) (j0 : 0 ≤ id) (jm : id ≤ 1000000) : Calls Try.prog 30 #[.pointer (some ⟨g, 0, none⟩)] w fun en w' => en = .returned (.tuple #[]) ∧ IsS43 z w' g n f s dl ks ee wd rh sl cp i (waitF (pat n s dl wd rh sl i) md id).1 (waitF (pat n s dl wd rh sl i) md id).2 true ∧ Below z.heap.size z w' ∧ KeepBut w w' g none := by
  by_cases h4 : md = 4
  · subst h4
    have e : waitF (pat n s dl wd rh sl i) 4 id = (4, 0) := by unfold waitF; rw [if_pos rfl]
    rw [e]
    exact wait_active g n f s dl ks ee wd rh sl cp i 4 id z w hI hB rfl
  · by_cases hp : pat n s dl wd rh sl i ≤ id + 1
    · have e : waitF (pat n s dl wd rh sl i) md id = (1, id + 1) := by unfold waitF; rw [if_neg h4, if_pos hp]
      rw [e]
      exact wait_off g n f s dl ks ee wd rh sl cp i md id z w hI hB h4 hk i0 i1 j0 jm hp
    · have e : waitF (pat n s dl wd rh sl i) md id = (md, id + 1) := by unfold waitF; rw [if_neg h4, if_neg hp]
      rw [e]
      exact wait_on g n f s dl ks ee wd rh sl cp i md id z w hI hB h4 hk i0 i1 j0 jm (by omega)
def stepF (n f md near : Int) (ag : Bool) : Int := if md = 2 then (if n - f ≤ near then 3 else 2) else if n - f ≤ near then (if ag then 4 else 3) else 2
set_option maxRecDepth 100000 in
set_option maxHeartbeats 4000000 in
theorem round_still (g : Nat) (n f s dl ks ee wd rh sl cp i md id : Int) (near : Int) (ag : Bool) (z w : World) (hI : IsS43 z w g n f s dl ks ee wd rh sl cp i md id true) (hB : Below z.heap.size z w) (hm : md = 0 ∨ md = 1) : Calls Try.prog 12 #[.pointer (some ⟨g, 0, none⟩), .int .i64 near, .bool ag] w fun en w' => en = .returned (.tuple #[.int .i64 md, .int .i64 0]) ∧ w' = w := by
  have c11 : w.cell? ⟨g, 11, none⟩ = some (.int .i64 md) := (blk_cell hI.1 11).trans rfl
  have c13 : w.cell? ⟨g, 13, none⟩ = some (.bool true) := (blk_cell hI.1 13).trans rfl
  clear hI hB
  rcases hm with rfl | rfl
  · go_enter Try.func12, Try.ntmps12
    go_wp2
    go_ret2
    exact ⟨rfl, rfl⟩
  · go_enter Try.func12, Try.ntmps12
    go_wp2
    go_ret2
    exact ⟨rfl, rfl⟩
set_option maxRecDepth 100000 in
set_option maxHeartbeats 4000000 in
theorem fall_2 (g : Nat) (n f s dl ks ee wd rh sl cp i id near : Int) (z w : World) (hI : IsS43 z w g n f s dl ks ee wd rh sl cp i 2 id true) (hB : Below z.heap.size z w) (n0 : 1 ≤ n) (n1 : n ≤ 8) (n2 : 0 ≤ f) (n3 : f ≤ 8)  : Calls Try.prog 28 #[.pointer (some ⟨g, 0, none⟩), .int .i64 near] w fun en w' => en = .returned (.bool false) ∧ IsS43 z w' g n f s dl ks ee wd rh sl cp i 2 id true ∧ Below z.heap.size z w' ∧ KeepBut w w' g none := by
  have c0 : w.cell? ⟨g, 0, none⟩ = some (.int .i64 n) := (blk_cell hI.1 0).trans rfl
  have c1 : w.cell? ⟨g, 1, none⟩ = some (.int .i64 f) := (blk_cell hI.1 1).trans rfl
  have c11 : w.cell? ⟨g, 11, none⟩ = some (.int .i64 2) := (blk_cell hI.1 11).trans rfl
  have fz11 : w.frozen? ⟨g, 11, none⟩ = false := blk_frozen hI.1 11
  have HI := Aside0.mk hI
  have HB := Aside0.mk hB
  clear hI hB
  have hb := true
  go_enter Try.func28, Try.ntmps28
  go_wp2
  repeat (go_quiet (fail); try go_wp2)
  all_goals first | (exfalso; simp_all; done) | ((first | go_ret | go_end0 | (refine bodyPost_ret (results_none rfl _ _ _) rfl ?_)); exact ⟨rfl, by first | exact HI.out | exact IsS43.drewN HI.out _ | exact IsS43.set_11 HI.out _ | exact IsS43.set_11 (IsS43.drewN HI.out _) _ | exact IsS43.set_11 (IsS43.set_11 HI.out _) _, by repeat (first | exact HB.out | apply pw_below_drewN | apply below_drew1 | refine Below.setCell ?_ HI.out.2 _), by repeat (first | exact KeepBut.refl _ _ _ | refine KeepBut.set_ ?_ _ _ | refine keep_drewN ?_ _)⟩)
set_option maxRecDepth 100000 in
set_option maxHeartbeats 4000000 in
theorem fall_3e (g : Nat) (n f s dl ks ee wd rh sl cp i id near : Int) (z w : World) (hI : IsS43 z w g n f s dl ks ee wd rh sl cp i 3 id true) (hB : Below z.heap.size z w) (n0 : 1 ≤ n) (n1 : n ≤ 8) (n2 : 0 ≤ f) (n3 : f ≤ 8) (he : n - f ≤ near) : Calls Try.prog 28 #[.pointer (some ⟨g, 0, none⟩), .int .i64 near] w fun en w' => en = .returned (.bool false) ∧ IsS43 z w' g n f s dl ks ee wd rh sl cp i 3 id true ∧ Below z.heap.size z w' ∧ KeepBut w w' g none := by
  have c0 : w.cell? ⟨g, 0, none⟩ = some (.int .i64 n) := (blk_cell hI.1 0).trans rfl
  have c1 : w.cell? ⟨g, 1, none⟩ = some (.int .i64 f) := (blk_cell hI.1 1).trans rfl
  have c11 : w.cell? ⟨g, 11, none⟩ = some (.int .i64 3) := (blk_cell hI.1 11).trans rfl
  have fz11 : w.frozen? ⟨g, 11, none⟩ = false := blk_frozen hI.1 11
  have HI := Aside0.mk hI
  have HB := Aside0.mk hB
  clear hI hB
  have hb : decide (n - f ≤ near) = true := decide_eq_true (by omega)
  go_enter Try.func28, Try.ntmps28
  go_wp2
  repeat (go_quiet (fail); try go_wp2)
  all_goals first | (exfalso; simp_all; done) | ((first | go_ret | go_end0 | (refine bodyPost_ret (results_none rfl _ _ _) rfl ?_)); exact ⟨rfl, by first | exact HI.out | exact IsS43.drewN HI.out _ | exact IsS43.set_11 HI.out _ | exact IsS43.set_11 (IsS43.drewN HI.out _) _ | exact IsS43.set_11 (IsS43.set_11 HI.out _) _, by repeat (first | exact HB.out | apply pw_below_drewN | apply below_drew1 | refine Below.setCell ?_ HI.out.2 _), by repeat (first | exact KeepBut.refl _ _ _ | refine KeepBut.set_ ?_ _ _ | refine keep_drewN ?_ _)⟩)
set_option maxRecDepth 100000 in
set_option maxHeartbeats 4000000 in
theorem fall_3n (g : Nat) (n f s dl ks ee wd rh sl cp i id near : Int) (z w : World) (hI : IsS43 z w g n f s dl ks ee wd rh sl cp i 3 id true) (hB : Below z.heap.size z w) (n0 : 1 ≤ n) (n1 : n ≤ 8) (n2 : 0 ≤ f) (n3 : f ≤ 8) (he : near < n - f) : Calls Try.prog 28 #[.pointer (some ⟨g, 0, none⟩), .int .i64 near] w fun en w' => en = .returned (.bool true) ∧ IsS43 z w' g n f s dl ks ee wd rh sl cp i 2 id true ∧ Below z.heap.size z w' ∧ KeepBut w w' g none := by
  have c0 : w.cell? ⟨g, 0, none⟩ = some (.int .i64 n) := (blk_cell hI.1 0).trans rfl
  have c1 : w.cell? ⟨g, 1, none⟩ = some (.int .i64 f) := (blk_cell hI.1 1).trans rfl
  have c11 : w.cell? ⟨g, 11, none⟩ = some (.int .i64 3) := (blk_cell hI.1 11).trans rfl
  have fz11 : w.frozen? ⟨g, 11, none⟩ = false := blk_frozen hI.1 11
  have HI := Aside0.mk hI
  have HB := Aside0.mk hB
  clear hI hB
  have hb : decide (n - f ≤ near) = false := decide_eq_false (by omega)
  go_enter Try.func28, Try.ntmps28
  go_wp2
  repeat (go_quiet (fail); try go_wp2)
  all_goals first | (exfalso; simp_all; done) | ((first | go_ret | go_end0 | (refine bodyPost_ret (results_none rfl _ _ _) rfl ?_)); exact ⟨rfl, by first | exact HI.out | exact IsS43.drewN HI.out _ | exact IsS43.set_11 HI.out _ | exact IsS43.set_11 (IsS43.drewN HI.out _) _ | exact IsS43.set_11 (IsS43.set_11 HI.out _) _, by repeat (first | exact HB.out | apply pw_below_drewN | apply below_drew1 | refine Below.setCell ?_ HI.out.2 _), by repeat (first | exact KeepBut.refl _ _ _ | refine KeepBut.set_ ?_ _ _ | refine keep_drewN ?_ _)⟩)
set_option maxRecDepth 100000 in
set_option maxHeartbeats 4000000 in
theorem rise_3t (g : Nat) (n f s dl ks ee wd rh sl cp i id near : Int) (z w : World) (hI : IsS43 z w g n f s dl ks ee wd rh sl cp i 3 id true) (hB : Below z.heap.size z w) (n0 : 1 ≤ n) (n1 : n ≤ 8) (n2 : 0 ≤ f) (n3 : f ≤ 8)  : Calls Try.prog 29 #[.pointer (some ⟨g, 0, none⟩), .int .i64 near, .bool true] w fun en w' => en = .returned (.tuple #[]) ∧ IsS43 z w' g n f s dl ks ee wd rh sl cp i 4 id true ∧ Below z.heap.size z w' ∧ KeepBut w w' g none := by
  have c0 : w.cell? ⟨g, 0, none⟩ = some (.int .i64 n) := (blk_cell hI.1 0).trans rfl
  have c1 : w.cell? ⟨g, 1, none⟩ = some (.int .i64 f) := (blk_cell hI.1 1).trans rfl
  have c11 : w.cell? ⟨g, 11, none⟩ = some (.int .i64 3) := (blk_cell hI.1 11).trans rfl
  have fz11 : w.frozen? ⟨g, 11, none⟩ = false := blk_frozen hI.1 11
  have HI := Aside0.mk hI
  have HB := Aside0.mk hB
  clear hI hB
  have hb := true
  go_enter Try.func29, Try.ntmps29
  go_wp2
  repeat (go_quiet (fail); try go_wp2)
  all_goals first | (exfalso; simp_all; done) | ((first | go_ret | go_end0 | (refine bodyPost_ret (results_none rfl _ _ _) rfl ?_)); exact ⟨rfl, by first | exact HI.out | exact IsS43.drewN HI.out _ | exact IsS43.set_11 HI.out _ | exact IsS43.set_11 (IsS43.drewN HI.out _) _ | exact IsS43.set_11 (IsS43.set_11 HI.out _) _, by repeat (first | exact HB.out | apply pw_below_drewN | apply below_drew1 | refine Below.setCell ?_ HI.out.2 _), by repeat (first | exact KeepBut.refl _ _ _ | refine KeepBut.set_ ?_ _ _ | refine keep_drewN ?_ _)⟩)
set_option maxRecDepth 100000 in
set_option maxHeartbeats 4000000 in
theorem rise_3f (g : Nat) (n f s dl ks ee wd rh sl cp i id near : Int) (z w : World) (hI : IsS43 z w g n f s dl ks ee wd rh sl cp i 3 id true) (hB : Below z.heap.size z w) (n0 : 1 ≤ n) (n1 : n ≤ 8) (n2 : 0 ≤ f) (n3 : f ≤ 8)  : Calls Try.prog 29 #[.pointer (some ⟨g, 0, none⟩), .int .i64 near, .bool false] w fun en w' => en = .returned (.tuple #[]) ∧ IsS43 z w' g n f s dl ks ee wd rh sl cp i 3 id true ∧ Below z.heap.size z w' ∧ KeepBut w w' g none := by
  have c0 : w.cell? ⟨g, 0, none⟩ = some (.int .i64 n) := (blk_cell hI.1 0).trans rfl
  have c1 : w.cell? ⟨g, 1, none⟩ = some (.int .i64 f) := (blk_cell hI.1 1).trans rfl
  have c11 : w.cell? ⟨g, 11, none⟩ = some (.int .i64 3) := (blk_cell hI.1 11).trans rfl
  have fz11 : w.frozen? ⟨g, 11, none⟩ = false := blk_frozen hI.1 11
  have HI := Aside0.mk hI
  have HB := Aside0.mk hB
  clear hI hB
  have hb := true
  go_enter Try.func29, Try.ntmps29
  go_wp2
  repeat (go_quiet (fail); try go_wp2)
  all_goals first | (exfalso; simp_all; done) | ((first | go_ret | go_end0 | (refine bodyPost_ret (results_none rfl _ _ _) rfl ?_)); exact ⟨rfl, by first | exact HI.out | exact IsS43.drewN HI.out _ | exact IsS43.set_11 HI.out _ | exact IsS43.set_11 (IsS43.drewN HI.out _) _ | exact IsS43.set_11 (IsS43.set_11 HI.out _) _, by repeat (first | exact HB.out | apply pw_below_drewN | apply below_drew1 | refine Below.setCell ?_ HI.out.2 _), by repeat (first | exact KeepBut.refl _ _ _ | refine KeepBut.set_ ?_ _ _ | refine keep_drewN ?_ _)⟩)
set_option maxRecDepth 100000 in
set_option maxHeartbeats 4000000 in
theorem fall_4e (g : Nat) (n f s dl ks ee wd rh sl cp i id near : Int) (z w : World) (hI : IsS43 z w g n f s dl ks ee wd rh sl cp i 4 id true) (hB : Below z.heap.size z w) (n0 : 1 ≤ n) (n1 : n ≤ 8) (n2 : 0 ≤ f) (n3 : f ≤ 8) (he : n - f ≤ near) : Calls Try.prog 28 #[.pointer (some ⟨g, 0, none⟩), .int .i64 near] w fun en w' => en = .returned (.bool false) ∧ IsS43 z w' g n f s dl ks ee wd rh sl cp i 4 id true ∧ Below z.heap.size z w' ∧ KeepBut w w' g none := by
  have c0 : w.cell? ⟨g, 0, none⟩ = some (.int .i64 n) := (blk_cell hI.1 0).trans rfl
  have c1 : w.cell? ⟨g, 1, none⟩ = some (.int .i64 f) := (blk_cell hI.1 1).trans rfl
  have c11 : w.cell? ⟨g, 11, none⟩ = some (.int .i64 4) := (blk_cell hI.1 11).trans rfl
  have fz11 : w.frozen? ⟨g, 11, none⟩ = false := blk_frozen hI.1 11
  have HI := Aside0.mk hI
  have HB := Aside0.mk hB
  clear hI hB
  have hb : decide (n - f ≤ near) = true := decide_eq_true (by omega)
  go_enter Try.func28, Try.ntmps28
  go_wp2
  repeat (go_quiet (fail); try go_wp2)
  all_goals first | (exfalso; simp_all; done) | ((first | go_ret | go_end0 | (refine bodyPost_ret (results_none rfl _ _ _) rfl ?_)); exact ⟨rfl, by first | exact HI.out | exact IsS43.drewN HI.out _ | exact IsS43.set_11 HI.out _ | exact IsS43.set_11 (IsS43.drewN HI.out _) _ | exact IsS43.set_11 (IsS43.set_11 HI.out _) _, by repeat (first | exact HB.out | apply pw_below_drewN | apply below_drew1 | refine Below.setCell ?_ HI.out.2 _), by repeat (first | exact KeepBut.refl _ _ _ | refine KeepBut.set_ ?_ _ _ | refine keep_drewN ?_ _)⟩)
set_option maxRecDepth 100000 in
set_option maxHeartbeats 4000000 in
theorem fall_4n (g : Nat) (n f s dl ks ee wd rh sl cp i id near : Int) (z w : World) (hI : IsS43 z w g n f s dl ks ee wd rh sl cp i 4 id true) (hB : Below z.heap.size z w) (n0 : 1 ≤ n) (n1 : n ≤ 8) (n2 : 0 ≤ f) (n3 : f ≤ 8) (he : near < n - f) : Calls Try.prog 28 #[.pointer (some ⟨g, 0, none⟩), .int .i64 near] w fun en w' => en = .returned (.bool true) ∧ IsS43 z w' g n f s dl ks ee wd rh sl cp i 2 id true ∧ Below z.heap.size z w' ∧ KeepBut w w' g none := by
  have c0 : w.cell? ⟨g, 0, none⟩ = some (.int .i64 n) := (blk_cell hI.1 0).trans rfl
  have c1 : w.cell? ⟨g, 1, none⟩ = some (.int .i64 f) := (blk_cell hI.1 1).trans rfl
  have c11 : w.cell? ⟨g, 11, none⟩ = some (.int .i64 4) := (blk_cell hI.1 11).trans rfl
  have fz11 : w.frozen? ⟨g, 11, none⟩ = false := blk_frozen hI.1 11
  have HI := Aside0.mk hI
  have HB := Aside0.mk hB
  clear hI hB
  have hb : decide (n - f ≤ near) = false := decide_eq_false (by omega)
  go_enter Try.func28, Try.ntmps28
  go_wp2
  repeat (go_quiet (fail); try go_wp2)
  all_goals first | (exfalso; simp_all; done) | ((first | go_ret | go_end0 | (refine bodyPost_ret (results_none rfl _ _ _) rfl ?_)); exact ⟨rfl, by first | exact HI.out | exact IsS43.drewN HI.out _ | exact IsS43.set_11 HI.out _ | exact IsS43.set_11 (IsS43.drewN HI.out _) _ | exact IsS43.set_11 (IsS43.set_11 HI.out _) _, by repeat (first | exact HB.out | apply pw_below_drewN | apply below_drew1 | refine Below.setCell ?_ HI.out.2 _), by repeat (first | exact KeepBut.refl _ _ _ | refine KeepBut.set_ ?_ _ _ | refine keep_drewN ?_ _)⟩)
set_option maxRecDepth 100000 in
set_option maxHeartbeats 4000000 in
theorem rise_4t (g : Nat) (n f s dl ks ee wd rh sl cp i id near : Int) (z w : World) (hI : IsS43 z w g n f s dl ks ee wd rh sl cp i 4 id true) (hB : Below z.heap.size z w) (n0 : 1 ≤ n) (n1 : n ≤ 8) (n2 : 0 ≤ f) (n3 : f ≤ 8)  : Calls Try.prog 29 #[.pointer (some ⟨g, 0, none⟩), .int .i64 near, .bool true] w fun en w' => en = .returned (.tuple #[]) ∧ IsS43 z w' g n f s dl ks ee wd rh sl cp i 4 id true ∧ Below z.heap.size z w' ∧ KeepBut w w' g none := by
  have c0 : w.cell? ⟨g, 0, none⟩ = some (.int .i64 n) := (blk_cell hI.1 0).trans rfl
  have c1 : w.cell? ⟨g, 1, none⟩ = some (.int .i64 f) := (blk_cell hI.1 1).trans rfl
  have c11 : w.cell? ⟨g, 11, none⟩ = some (.int .i64 4) := (blk_cell hI.1 11).trans rfl
  have fz11 : w.frozen? ⟨g, 11, none⟩ = false := blk_frozen hI.1 11
  have HI := Aside0.mk hI
  have HB := Aside0.mk hB
  clear hI hB
  have hb := true
  go_enter Try.func29, Try.ntmps29
  go_wp2
  repeat (go_quiet (fail); try go_wp2)
  all_goals first | (exfalso; simp_all; done) | ((first | go_ret | go_end0 | (refine bodyPost_ret (results_none rfl _ _ _) rfl ?_)); exact ⟨rfl, by first | exact HI.out | exact IsS43.drewN HI.out _ | exact IsS43.set_11 HI.out _ | exact IsS43.set_11 (IsS43.drewN HI.out _) _ | exact IsS43.set_11 (IsS43.set_11 HI.out _) _, by repeat (first | exact HB.out | apply pw_below_drewN | apply below_drew1 | refine Below.setCell ?_ HI.out.2 _), by repeat (first | exact KeepBut.refl _ _ _ | refine KeepBut.set_ ?_ _ _ | refine keep_drewN ?_ _)⟩)
set_option maxRecDepth 100000 in
set_option maxHeartbeats 4000000 in
theorem rise_4f (g : Nat) (n f s dl ks ee wd rh sl cp i id near : Int) (z w : World) (hI : IsS43 z w g n f s dl ks ee wd rh sl cp i 4 id true) (hB : Below z.heap.size z w) (n0 : 1 ≤ n) (n1 : n ≤ 8) (n2 : 0 ≤ f) (n3 : f ≤ 8)  : Calls Try.prog 29 #[.pointer (some ⟨g, 0, none⟩), .int .i64 near, .bool false] w fun en w' => en = .returned (.tuple #[]) ∧ IsS43 z w' g n f s dl ks ee wd rh sl cp i 3 id true ∧ Below z.heap.size z w' ∧ KeepBut w w' g none := by
  have c0 : w.cell? ⟨g, 0, none⟩ = some (.int .i64 n) := (blk_cell hI.1 0).trans rfl
  have c1 : w.cell? ⟨g, 1, none⟩ = some (.int .i64 f) := (blk_cell hI.1 1).trans rfl
  have c11 : w.cell? ⟨g, 11, none⟩ = some (.int .i64 4) := (blk_cell hI.1 11).trans rfl
  have fz11 : w.frozen? ⟨g, 11, none⟩ = false := blk_frozen hI.1 11
  have HI := Aside0.mk hI
  have HB := Aside0.mk hB
  clear hI hB
  have hb := true
  go_enter Try.func29, Try.ntmps29
  go_wp2
  repeat (go_quiet (fail); try go_wp2)
  all_goals first | (exfalso; simp_all; done) | ((first | go_ret | go_end0 | (refine bodyPost_ret (results_none rfl _ _ _) rfl ?_)); exact ⟨rfl, by first | exact HI.out | exact IsS43.drewN HI.out _ | exact IsS43.set_11 HI.out _ | exact IsS43.set_11 (IsS43.drewN HI.out _) _ | exact IsS43.set_11 (IsS43.set_11 HI.out _) _, by repeat (first | exact HB.out | apply pw_below_drewN | apply below_drew1 | refine Below.setCell ?_ HI.out.2 _), by repeat (first | exact KeepBut.refl _ _ _ | refine KeepBut.set_ ?_ _ _ | refine keep_drewN ?_ _)⟩)
set_option maxRecDepth 100000 in
set_option maxHeartbeats 4000000 in
theorem rise_2e (g : Nat) (n f s dl ks ee wd rh sl cp i id near : Int) (ag : Bool) (z w : World) (hI : IsS43 z w g n f s dl ks ee wd rh sl cp i 2 id true) (hB : Below z.heap.size z w) (n0 : 1 ≤ n) (n1 : n ≤ 8) (n2 : 0 ≤ f) (n3 : f ≤ 8) (he : n - f ≤ near) : Calls Try.prog 29 #[.pointer (some ⟨g, 0, none⟩), .int .i64 near, .bool ag] w fun en w' => en = .returned (.tuple #[]) ∧ IsS43 z w' g n f s dl ks ee wd rh sl cp i 3 id true ∧ Below z.heap.size z w' ∧ KeepBut w w' g none := by
  have c0 : w.cell? ⟨g, 0, none⟩ = some (.int .i64 n) := (blk_cell hI.1 0).trans rfl
  have c1 : w.cell? ⟨g, 1, none⟩ = some (.int .i64 f) := (blk_cell hI.1 1).trans rfl
  have c11 : w.cell? ⟨g, 11, none⟩ = some (.int .i64 2) := (blk_cell hI.1 11).trans rfl
  have fz11 : w.frozen? ⟨g, 11, none⟩ = false := blk_frozen hI.1 11
  have HI := Aside0.mk hI
  have HB := Aside0.mk hB
  clear hI hB
  have hb : decide (n - f ≤ near) = true := decide_eq_true (by omega)
  go_enter Try.func29, Try.ntmps29
  go_wp2
  repeat (go_quiet (fail); try go_wp2)
  all_goals first | (exfalso; simp_all; done) | ((first | go_ret | go_end0 | (refine bodyPost_ret (results_none rfl _ _ _) rfl ?_)); exact ⟨rfl, by first | exact HI.out | exact IsS43.drewN HI.out _ | exact IsS43.set_11 HI.out _ | exact IsS43.set_11 (IsS43.drewN HI.out _) _ | exact IsS43.set_11 (IsS43.set_11 HI.out _) _, by repeat (first | exact HB.out | apply pw_below_drewN | apply below_drew1 | refine Below.setCell ?_ HI.out.2 _), by repeat (first | exact KeepBut.refl _ _ _ | refine KeepBut.set_ ?_ _ _ | refine keep_drewN ?_ _)⟩)
set_option maxRecDepth 100000 in
set_option maxHeartbeats 4000000 in
theorem rise_2n (g : Nat) (n f s dl ks ee wd rh sl cp i id near : Int) (ag : Bool) (z w : World) (hI : IsS43 z w g n f s dl ks ee wd rh sl cp i 2 id true) (hB : Below z.heap.size z w) (n0 : 1 ≤ n) (n1 : n ≤ 8) (n2 : 0 ≤ f) (n3 : f ≤ 8) (he : near < n - f) : Calls Try.prog 29 #[.pointer (some ⟨g, 0, none⟩), .int .i64 near, .bool ag] w fun en w' => en = .returned (.tuple #[]) ∧ IsS43 z w' g n f s dl ks ee wd rh sl cp i 2 id true ∧ Below z.heap.size z w' ∧ KeepBut w w' g none := by
  have c0 : w.cell? ⟨g, 0, none⟩ = some (.int .i64 n) := (blk_cell hI.1 0).trans rfl
  have c1 : w.cell? ⟨g, 1, none⟩ = some (.int .i64 f) := (blk_cell hI.1 1).trans rfl
  have c11 : w.cell? ⟨g, 11, none⟩ = some (.int .i64 2) := (blk_cell hI.1 11).trans rfl
  have fz11 : w.frozen? ⟨g, 11, none⟩ = false := blk_frozen hI.1 11
  have HI := Aside0.mk hI
  have HB := Aside0.mk hB
  clear hI hB
  have hb : decide (n - f ≤ near) = false := decide_eq_false (by omega)
  go_enter Try.func29, Try.ntmps29
  go_wp2
  repeat (go_quiet (fail); try go_wp2)
  all_goals first | (exfalso; simp_all; done) | ((first | go_ret | go_end0 | (refine bodyPost_ret (results_none rfl _ _ _) rfl ?_)); exact ⟨rfl, by first | exact HI.out | exact IsS43.drewN HI.out _ | exact IsS43.set_11 HI.out _ | exact IsS43.set_11 (IsS43.drewN HI.out _) _ | exact IsS43.set_11 (IsS43.set_11 HI.out _) _, by repeat (first | exact HB.out | apply pw_below_drewN | apply below_drew1 | refine Below.setCell ?_ HI.out.2 _), by repeat (first | exact KeepBut.refl _ _ _ | refine KeepBut.set_ ?_ _ _ | refine keep_drewN ?_ _)⟩)
set_option maxRecDepth 100000 in
set_option maxHeartbeats 4000000 in
theorem round_2e (g : Nat) (n f s dl ks ee wd rh sl cp i id near : Int) (ag : Bool) (z w : World) (hI : IsS43 z w g n f s dl ks ee wd rh sl cp i 2 id true) (hB : Below z.heap.size z w) (hk : Ok n f s dl ks ee wd rh sl cp) (i0 : 0 ≤ i) (i1 : i < n) (j0 : 0 ≤ id) (jm : id ≤ 1000000) (he : n - f ≤ near) : Calls Try.prog 12 #[.pointer (some ⟨g, 0, none⟩), .int .i64 near, .bool ag] w fun en w' => en = .returned (.tuple #[.int .i64 (waitF (pat n s dl wd rh sl i) 3 id).1, .int .i64 0]) ∧ IsS43 z w' g n f s dl ks ee wd rh sl cp i (waitF (pat n s dl wd rh sl i) 3 id).1 (waitF (pat n s dl wd rh sl i) 3 id).2 true ∧ Below z.heap.size z w' ∧ KeepBut w w' g none := by
  have c11 : w.cell? ⟨g, 11, none⟩ = some (.int .i64 2) := (blk_cell hI.1 11).trans rfl
  have HI := Aside0.mk hI
  have HB := Aside0.mk hB
  have hn : 1 ≤ n ∧ n ≤ 8 ∧ 0 ≤ f ∧ f ≤ 8 := by unfold Ok at hk; omega
  obtain ⟨n0, n1, n2, n3⟩ := hn
  have HW : ∀ w1 : World, IsS43 z w1 g n f s dl ks ee wd rh sl cp i 3 id true → Below z.heap.size z w1 → Calls Try.prog 30 #[.pointer (some ⟨g, 0, none⟩)] w1 fun en w' => en = .returned (.tuple #[]) ∧ IsS43 z w' g n f s dl ks ee wd rh sl cp i (waitF (pat n s dl wd rh sl i) 3 id).1 (waitF (pat n s dl wd rh sl i) 3 id).2 true ∧ Below z.heap.size z w' ∧ KeepBut w1 w' g none := fun w1 h1 h2 => wait_any g n f s dl ks ee wd rh sl cp i 3 id z w1 h1 h2 hk i0 i1 j0 jm
  have HW := Aside0.mk HW
  obtain ⟨q, hq⟩ : ∃ q, waitF (pat n s dl wd rh sl i) 3 id = q := ⟨_, rfl⟩
  rw [hq] at HW ⊢
  clear hI hB hk hq
  go_enter Try.func12, Try.ntmps12
  go_wp2_with (first | (go_at_call 25; go_loud (refine (none_ok g n f s dl ks ee wd rh sl cp i 2 id z w HI.out HB.out).mono ?_; rintro en w1 ⟨rfl, e1⟩; rw [e1]; clear e1)) | (go_at_call 28; go_loud (refine (fall_2 g n f s dl ks ee wd rh sl cp i id near z w HI.out HB.out n0 n1 n2 n3).mono ?_; rintro en wJ ⟨rfl, a1, a2, a3⟩; have J1 := Aside0.mk a1; have J2 := Aside0.mk a2; have J3 := Aside0.mk a3; clear a1 a2 a3)) | (go_at_call 29; go_loud (refine (rise_2e g n f s dl ks ee wd rh sl cp i id near ag z wJ J1.out J2.out n0 n1 n2 n3 he).mono ?_; rintro en wL ⟨rfl, a1, a2, a3⟩; have L1 := Aside0.mk a1; have L2 := Aside0.mk a2; have L3 := Aside0.mk a3; clear a1 a2 a3)) | (go_at_call 30; go_loud (refine (HW.out _ L1.out L2.out).mono ?_; rintro en w2 ⟨rfl, hI2, hB2, hK2⟩; have d11 : w2.cell? ⟨g, 11, none⟩ = some (.int .i64 q.1) := (blk_cell hI2.1 11).trans rfl; have HI2 := Aside0.mk hI2; have HB2 := Aside0.mk hB2; have HK2 := Aside0.mk hK2; clear hI2 hB2 hK2)))
  go_ret2
  exact ⟨rfl, HI2.out, HB2.out, (J3.out.trans L3.out (Or.inl rfl)).trans HK2.out (Or.inl rfl)⟩
set_option maxRecDepth 100000 in
set_option maxHeartbeats 4000000 in
theorem round_2n (g : Nat) (n f s dl ks ee wd rh sl cp i id near : Int) (ag : Bool) (z w : World) (hI : IsS43 z w g n f s dl ks ee wd rh sl cp i 2 id true) (hB : Below z.heap.size z w) (hk : Ok n f s dl ks ee wd rh sl cp) (i0 : 0 ≤ i) (i1 : i < n) (j0 : 0 ≤ id) (jm : id ≤ 1000000) (he : near < n - f) : Calls Try.prog 12 #[.pointer (some ⟨g, 0, none⟩), .int .i64 near, .bool ag] w fun en w' => en = .returned (.tuple #[.int .i64 (waitF (pat n s dl wd rh sl i) 2 id).1, .int .i64 0]) ∧ IsS43 z w' g n f s dl ks ee wd rh sl cp i (waitF (pat n s dl wd rh sl i) 2 id).1 (waitF (pat n s dl wd rh sl i) 2 id).2 true ∧ Below z.heap.size z w' ∧ KeepBut w w' g none := by
  have c11 : w.cell? ⟨g, 11, none⟩ = some (.int .i64 2) := (blk_cell hI.1 11).trans rfl
  have HI := Aside0.mk hI
  have HB := Aside0.mk hB
  have hn : 1 ≤ n ∧ n ≤ 8 ∧ 0 ≤ f ∧ f ≤ 8 := by unfold Ok at hk; omega
  obtain ⟨n0, n1, n2, n3⟩ := hn
  have HW : ∀ w1 : World, IsS43 z w1 g n f s dl ks ee wd rh sl cp i 2 id true → Below z.heap.size z w1 → Calls Try.prog 30 #[.pointer (some ⟨g, 0, none⟩)] w1 fun en w' => en = .returned (.tuple #[]) ∧ IsS43 z w' g n f s dl ks ee wd rh sl cp i (waitF (pat n s dl wd rh sl i) 2 id).1 (waitF (pat n s dl wd rh sl i) 2 id).2 true ∧ Below z.heap.size z w' ∧ KeepBut w1 w' g none := fun w1 h1 h2 => wait_any g n f s dl ks ee wd rh sl cp i 2 id z w1 h1 h2 hk i0 i1 j0 jm
  have HW := Aside0.mk HW
  obtain ⟨q, hq⟩ : ∃ q, waitF (pat n s dl wd rh sl i) 2 id = q := ⟨_, rfl⟩
  rw [hq] at HW ⊢
  clear hI hB hk hq
  go_enter Try.func12, Try.ntmps12
  go_wp2_with (first | (go_at_call 25; go_loud (refine (none_ok g n f s dl ks ee wd rh sl cp i 2 id z w HI.out HB.out).mono ?_; rintro en w1 ⟨rfl, e1⟩; rw [e1]; clear e1)) | (go_at_call 28; go_loud (refine (fall_2 g n f s dl ks ee wd rh sl cp i id near z w HI.out HB.out n0 n1 n2 n3).mono ?_; rintro en wJ ⟨rfl, a1, a2, a3⟩; have J1 := Aside0.mk a1; have J2 := Aside0.mk a2; have J3 := Aside0.mk a3; clear a1 a2 a3)) | (go_at_call 29; go_loud (refine (rise_2n g n f s dl ks ee wd rh sl cp i id near ag z wJ J1.out J2.out n0 n1 n2 n3 he).mono ?_; rintro en wL ⟨rfl, a1, a2, a3⟩; have L1 := Aside0.mk a1; have L2 := Aside0.mk a2; have L3 := Aside0.mk a3; clear a1 a2 a3)) | (go_at_call 30; go_loud (refine (HW.out _ L1.out L2.out).mono ?_; rintro en w2 ⟨rfl, hI2, hB2, hK2⟩; have d11 : w2.cell? ⟨g, 11, none⟩ = some (.int .i64 q.1) := (blk_cell hI2.1 11).trans rfl; have HI2 := Aside0.mk hI2; have HB2 := Aside0.mk hB2; have HK2 := Aside0.mk hK2; clear hI2 hB2 hK2)))
  go_ret2
  exact ⟨rfl, HI2.out, HB2.out, (J3.out.trans L3.out (Or.inl rfl)).trans HK2.out (Or.inl rfl)⟩
set_option maxRecDepth 100000 in
set_option maxHeartbeats 4000000 in
theorem round_3n (g : Nat) (n f s dl ks ee wd rh sl cp i id near : Int) (ag : Bool) (z w : World) (hI : IsS43 z w g n f s dl ks ee wd rh sl cp i 3 id true) (hB : Below z.heap.size z w) (hk : Ok n f s dl ks ee wd rh sl cp) (i0 : 0 ≤ i) (i1 : i < n) (j0 : 0 ≤ id) (jm : id ≤ 1000000) (he : near < n - f) : Calls Try.prog 12 #[.pointer (some ⟨g, 0, none⟩), .int .i64 near, .bool ag] w fun en w' => en = .returned (.tuple #[.int .i64 (waitF (pat n s dl wd rh sl i) 2 id).1, .int .i64 0]) ∧ IsS43 z w' g n f s dl ks ee wd rh sl cp i (waitF (pat n s dl wd rh sl i) 2 id).1 (waitF (pat n s dl wd rh sl i) 2 id).2 true ∧ Below z.heap.size z w' ∧ KeepBut w w' g none := by
  have c11 : w.cell? ⟨g, 11, none⟩ = some (.int .i64 3) := (blk_cell hI.1 11).trans rfl
  have HI := Aside0.mk hI
  have HB := Aside0.mk hB
  have hn : 1 ≤ n ∧ n ≤ 8 ∧ 0 ≤ f ∧ f ≤ 8 := by unfold Ok at hk; omega
  obtain ⟨n0, n1, n2, n3⟩ := hn
  have HW : ∀ w1 : World, IsS43 z w1 g n f s dl ks ee wd rh sl cp i 2 id true → Below z.heap.size z w1 → Calls Try.prog 30 #[.pointer (some ⟨g, 0, none⟩)] w1 fun en w' => en = .returned (.tuple #[]) ∧ IsS43 z w' g n f s dl ks ee wd rh sl cp i (waitF (pat n s dl wd rh sl i) 2 id).1 (waitF (pat n s dl wd rh sl i) 2 id).2 true ∧ Below z.heap.size z w' ∧ KeepBut w1 w' g none := fun w1 h1 h2 => wait_any g n f s dl ks ee wd rh sl cp i 2 id z w1 h1 h2 hk i0 i1 j0 jm
  have HW := Aside0.mk HW
  obtain ⟨q, hq⟩ : ∃ q, waitF (pat n s dl wd rh sl i) 2 id = q := ⟨_, rfl⟩
  rw [hq] at HW ⊢
  clear hI hB hk hq
  go_enter Try.func12, Try.ntmps12
  go_wp2_with (first | (go_at_call 25; go_loud (refine (none_ok g n f s dl ks ee wd rh sl cp i 3 id z w HI.out HB.out).mono ?_; rintro en w1 ⟨rfl, e1⟩; rw [e1]; clear e1)) | (go_at_call 28; go_loud (refine (fall_3n g n f s dl ks ee wd rh sl cp i id near z w HI.out HB.out n0 n1 n2 n3 he).mono ?_; rintro en wJ ⟨rfl, a1, a2, a3⟩; have J1 := Aside0.mk a1; have J2 := Aside0.mk a2; have J3 := Aside0.mk a3; clear a1 a2 a3)) | (go_at_call 30; go_loud (refine (HW.out _ J1.out J2.out).mono ?_; rintro en w2 ⟨rfl, hI2, hB2, hK2⟩; have d11 : w2.cell? ⟨g, 11, none⟩ = some (.int .i64 q.1) := (blk_cell hI2.1 11).trans rfl; have HI2 := Aside0.mk hI2; have HB2 := Aside0.mk hB2; have HK2 := Aside0.mk hK2; clear hI2 hB2 hK2)))
  go_ret2
  exact ⟨rfl, HI2.out, HB2.out, J3.out.trans HK2.out (Or.inl rfl)⟩
set_option maxRecDepth 100000 in
set_option maxHeartbeats 4000000 in
theorem round_3t (g : Nat) (n f s dl ks ee wd rh sl cp i id near : Int) (z w : World) (hI : IsS43 z w g n f s dl ks ee wd rh sl cp i 3 id true) (hB : Below z.heap.size z w) (hk : Ok n f s dl ks ee wd rh sl cp) (i0 : 0 ≤ i) (i1 : i < n) (j0 : 0 ≤ id) (jm : id ≤ 1000000) (he : n - f ≤ near) : Calls Try.prog 12 #[.pointer (some ⟨g, 0, none⟩), .int .i64 near, .bool true] w fun en w' => en = .returned (.tuple #[.int .i64 (waitF (pat n s dl wd rh sl i) 4 id).1, .int .i64 0]) ∧ IsS43 z w' g n f s dl ks ee wd rh sl cp i (waitF (pat n s dl wd rh sl i) 4 id).1 (waitF (pat n s dl wd rh sl i) 4 id).2 true ∧ Below z.heap.size z w' ∧ KeepBut w w' g none := by
  have c11 : w.cell? ⟨g, 11, none⟩ = some (.int .i64 3) := (blk_cell hI.1 11).trans rfl
  have HI := Aside0.mk hI
  have HB := Aside0.mk hB
  have hn : 1 ≤ n ∧ n ≤ 8 ∧ 0 ≤ f ∧ f ≤ 8 := by unfold Ok at hk; omega
  obtain ⟨n0, n1, n2, n3⟩ := hn
  have HW : ∀ w1 : World, IsS43 z w1 g n f s dl ks ee wd rh sl cp i 4 id true → Below z.heap.size z w1 → Calls Try.prog 30 #[.pointer (some ⟨g, 0, none⟩)] w1 fun en w' => en = .returned (.tuple #[]) ∧ IsS43 z w' g n f s dl ks ee wd rh sl cp i (waitF (pat n s dl wd rh sl i) 4 id).1 (waitF (pat n s dl wd rh sl i) 4 id).2 true ∧ Below z.heap.size z w' ∧ KeepBut w1 w' g none := fun w1 h1 h2 => wait_any g n f s dl ks ee wd rh sl cp i 4 id z w1 h1 h2 hk i0 i1 j0 jm
  have HW := Aside0.mk HW
  obtain ⟨q, hq⟩ : ∃ q, waitF (pat n s dl wd rh sl i) 4 id = q := ⟨_, rfl⟩
  rw [hq] at HW ⊢
  clear hI hB hk hq
  go_enter Try.func12, Try.ntmps12
  go_wp2_with (first | (go_at_call 25; go_loud (refine (none_ok g n f s dl ks ee wd rh sl cp i 3 id z w HI.out HB.out).mono ?_; rintro en w1 ⟨rfl, e1⟩; rw [e1]; clear e1)) | (go_at_call 28; go_loud (refine (fall_3e g n f s dl ks ee wd rh sl cp i id near z w HI.out HB.out n0 n1 n2 n3 he).mono ?_; rintro en wJ ⟨rfl, a1, a2, a3⟩; have J1 := Aside0.mk a1; have J2 := Aside0.mk a2; have J3 := Aside0.mk a3; clear a1 a2 a3)) | (go_at_call 29; go_loud (refine (rise_3t g n f s dl ks ee wd rh sl cp i id near z wJ J1.out J2.out n0 n1 n2 n3).mono ?_; rintro en wL ⟨rfl, a1, a2, a3⟩; have L1 := Aside0.mk a1; have L2 := Aside0.mk a2; have L3 := Aside0.mk a3; clear a1 a2 a3)) | (go_at_call 30; go_loud (refine (HW.out _ L1.out L2.out).mono ?_; rintro en w2 ⟨rfl, hI2, hB2, hK2⟩; have d11 : w2.cell? ⟨g, 11, none⟩ = some (.int .i64 q.1) := (blk_cell hI2.1 11).trans rfl; have HI2 := Aside0.mk hI2; have HB2 := Aside0.mk hB2; have HK2 := Aside0.mk hK2; clear hI2 hB2 hK2)))
  go_ret2
  exact ⟨rfl, HI2.out, HB2.out, (J3.out.trans L3.out (Or.inl rfl)).trans HK2.out (Or.inl rfl)⟩
set_option maxRecDepth 100000 in
set_option maxHeartbeats 4000000 in
theorem round_3f (g : Nat) (n f s dl ks ee wd rh sl cp i id near : Int) (z w : World) (hI : IsS43 z w g n f s dl ks ee wd rh sl cp i 3 id true) (hB : Below z.heap.size z w) (hk : Ok n f s dl ks ee wd rh sl cp) (i0 : 0 ≤ i) (i1 : i < n) (j0 : 0 ≤ id) (jm : id ≤ 1000000) (he : n - f ≤ near) : Calls Try.prog 12 #[.pointer (some ⟨g, 0, none⟩), .int .i64 near, .bool false] w fun en w' => en = .returned (.tuple #[.int .i64 (waitF (pat n s dl wd rh sl i) 3 id).1, .int .i64 0]) ∧ IsS43 z w' g n f s dl ks ee wd rh sl cp i (waitF (pat n s dl wd rh sl i) 3 id).1 (waitF (pat n s dl wd rh sl i) 3 id).2 true ∧ Below z.heap.size z w' ∧ KeepBut w w' g none := by
  have c11 : w.cell? ⟨g, 11, none⟩ = some (.int .i64 3) := (blk_cell hI.1 11).trans rfl
  have HI := Aside0.mk hI
  have HB := Aside0.mk hB
  have hn : 1 ≤ n ∧ n ≤ 8 ∧ 0 ≤ f ∧ f ≤ 8 := by unfold Ok at hk; omega
  obtain ⟨n0, n1, n2, n3⟩ := hn
  have HW : ∀ w1 : World, IsS43 z w1 g n f s dl ks ee wd rh sl cp i 3 id true → Below z.heap.size z w1 → Calls Try.prog 30 #[.pointer (some ⟨g, 0, none⟩)] w1 fun en w' => en = .returned (.tuple #[]) ∧ IsS43 z w' g n f s dl ks ee wd rh sl cp i (waitF (pat n s dl wd rh sl i) 3 id).1 (waitF (pat n s dl wd rh sl i) 3 id).2 true ∧ Below z.heap.size z w' ∧ KeepBut w1 w' g none := fun w1 h1 h2 => wait_any g n f s dl ks ee wd rh sl cp i 3 id z w1 h1 h2 hk i0 i1 j0 jm
  have HW := Aside0.mk HW
  obtain ⟨q, hq⟩ : ∃ q, waitF (pat n s dl wd rh sl i) 3 id = q := ⟨_, rfl⟩
  rw [hq] at HW ⊢
  clear hI hB hk hq
  go_enter Try.func12, Try.ntmps12
  go_wp2_with (first | (go_at_call 25; go_loud (refine (none_ok g n f s dl ks ee wd rh sl cp i 3 id z w HI.out HB.out).mono ?_; rintro en w1 ⟨rfl, e1⟩; rw [e1]; clear e1)) | (go_at_call 28; go_loud (refine (fall_3e g n f s dl ks ee wd rh sl cp i id near z w HI.out HB.out n0 n1 n2 n3 he).mono ?_; rintro en wJ ⟨rfl, a1, a2, a3⟩; have J1 := Aside0.mk a1; have J2 := Aside0.mk a2; have J3 := Aside0.mk a3; clear a1 a2 a3)) | (go_at_call 29; go_loud (refine (rise_3f g n f s dl ks ee wd rh sl cp i id near z wJ J1.out J2.out n0 n1 n2 n3).mono ?_; rintro en wL ⟨rfl, a1, a2, a3⟩; have L1 := Aside0.mk a1; have L2 := Aside0.mk a2; have L3 := Aside0.mk a3; clear a1 a2 a3)) | (go_at_call 30; go_loud (refine (HW.out _ L1.out L2.out).mono ?_; rintro en w2 ⟨rfl, hI2, hB2, hK2⟩; have d11 : w2.cell? ⟨g, 11, none⟩ = some (.int .i64 q.1) := (blk_cell hI2.1 11).trans rfl; have HI2 := Aside0.mk hI2; have HB2 := Aside0.mk hB2; have HK2 := Aside0.mk hK2; clear hI2 hB2 hK2)))
  go_ret2
  exact ⟨rfl, HI2.out, HB2.out, (J3.out.trans L3.out (Or.inl rfl)).trans HK2.out (Or.inl rfl)⟩
set_option maxRecDepth 100000 in
set_option maxHeartbeats 4000000 in
theorem round_4n (g : Nat) (n f s dl ks ee wd rh sl cp i id near : Int) (ag : Bool) (z w : World) (hI : IsS43 z w g n f s dl ks ee wd rh sl cp i 4 id true) (hB : Below z.heap.size z w) (hk : Ok n f s dl ks ee wd rh sl cp) (i0 : 0 ≤ i) (i1 : i < n) (j0 : 0 ≤ id) (jm : id ≤ 1000000) (he : near < n - f) : Calls Try.prog 12 #[.pointer (some ⟨g, 0, none⟩), .int .i64 near, .bool ag] w fun en w' => en = .returned (.tuple #[.int .i64 (waitF (pat n s dl wd rh sl i) 2 id).1, .int .i64 0]) ∧ IsS43 z w' g n f s dl ks ee wd rh sl cp i (waitF (pat n s dl wd rh sl i) 2 id).1 (waitF (pat n s dl wd rh sl i) 2 id).2 true ∧ Below z.heap.size z w' ∧ KeepBut w w' g none := by
  have c11 : w.cell? ⟨g, 11, none⟩ = some (.int .i64 4) := (blk_cell hI.1 11).trans rfl
  have HI := Aside0.mk hI
  have HB := Aside0.mk hB
  have hn : 1 ≤ n ∧ n ≤ 8 ∧ 0 ≤ f ∧ f ≤ 8 := by unfold Ok at hk; omega
  obtain ⟨n0, n1, n2, n3⟩ := hn
  have HW : ∀ w1 : World, IsS43 z w1 g n f s dl ks ee wd rh sl cp i 2 id true → Below z.heap.size z w1 → Calls Try.prog 30 #[.pointer (some ⟨g, 0, none⟩)] w1 fun en w' => en = .returned (.tuple #[]) ∧ IsS43 z w' g n f s dl ks ee wd rh sl cp i (waitF (pat n s dl wd rh sl i) 2 id).1 (waitF (pat n s dl wd rh sl i) 2 id).2 true ∧ Below z.heap.size z w' ∧ KeepBut w1 w' g none := fun w1 h1 h2 => wait_any g n f s dl ks ee wd rh sl cp i 2 id z w1 h1 h2 hk i0 i1 j0 jm
  have HW := Aside0.mk HW
  obtain ⟨q, hq⟩ : ∃ q, waitF (pat n s dl wd rh sl i) 2 id = q := ⟨_, rfl⟩
  rw [hq] at HW ⊢
  clear hI hB hk hq
  go_enter Try.func12, Try.ntmps12
  go_wp2_with (first | (go_at_call 25; go_loud (refine (none_ok g n f s dl ks ee wd rh sl cp i 4 id z w HI.out HB.out).mono ?_; rintro en w1 ⟨rfl, e1⟩; rw [e1]; clear e1)) | (go_at_call 28; go_loud (refine (fall_4n g n f s dl ks ee wd rh sl cp i id near z w HI.out HB.out n0 n1 n2 n3 he).mono ?_; rintro en wJ ⟨rfl, a1, a2, a3⟩; have J1 := Aside0.mk a1; have J2 := Aside0.mk a2; have J3 := Aside0.mk a3; clear a1 a2 a3)) | (go_at_call 30; go_loud (refine (HW.out _ J1.out J2.out).mono ?_; rintro en w2 ⟨rfl, hI2, hB2, hK2⟩; have d11 : w2.cell? ⟨g, 11, none⟩ = some (.int .i64 q.1) := (blk_cell hI2.1 11).trans rfl; have HI2 := Aside0.mk hI2; have HB2 := Aside0.mk hB2; have HK2 := Aside0.mk hK2; clear hI2 hB2 hK2)))
  go_ret2
  exact ⟨rfl, HI2.out, HB2.out, J3.out.trans HK2.out (Or.inl rfl)⟩
set_option maxRecDepth 100000 in
set_option maxHeartbeats 4000000 in
theorem round_4t (g : Nat) (n f s dl ks ee wd rh sl cp i id near : Int) (z w : World) (hI : IsS43 z w g n f s dl ks ee wd rh sl cp i 4 id true) (hB : Below z.heap.size z w) (hk : Ok n f s dl ks ee wd rh sl cp) (i0 : 0 ≤ i) (i1 : i < n) (j0 : 0 ≤ id) (jm : id ≤ 1000000) (he : n - f ≤ near) : Calls Try.prog 12 #[.pointer (some ⟨g, 0, none⟩), .int .i64 near, .bool true] w fun en w' => en = .returned (.tuple #[.int .i64 (waitF (pat n s dl wd rh sl i) 4 id).1, .int .i64 0]) ∧ IsS43 z w' g n f s dl ks ee wd rh sl cp i (waitF (pat n s dl wd rh sl i) 4 id).1 (waitF (pat n s dl wd rh sl i) 4 id).2 true ∧ Below z.heap.size z w' ∧ KeepBut w w' g none := by
  have c11 : w.cell? ⟨g, 11, none⟩ = some (.int .i64 4) := (blk_cell hI.1 11).trans rfl
  have HI := Aside0.mk hI
  have HB := Aside0.mk hB
  have hn : 1 ≤ n ∧ n ≤ 8 ∧ 0 ≤ f ∧ f ≤ 8 := by unfold Ok at hk; omega
  obtain ⟨n0, n1, n2, n3⟩ := hn
  have HW : ∀ w1 : World, IsS43 z w1 g n f s dl ks ee wd rh sl cp i 4 id true → Below z.heap.size z w1 → Calls Try.prog 30 #[.pointer (some ⟨g, 0, none⟩)] w1 fun en w' => en = .returned (.tuple #[]) ∧ IsS43 z w' g n f s dl ks ee wd rh sl cp i (waitF (pat n s dl wd rh sl i) 4 id).1 (waitF (pat n s dl wd rh sl i) 4 id).2 true ∧ Below z.heap.size z w' ∧ KeepBut w1 w' g none := fun w1 h1 h2 => wait_any g n f s dl ks ee wd rh sl cp i 4 id z w1 h1 h2 hk i0 i1 j0 jm
  have HW := Aside0.mk HW
  obtain ⟨q, hq⟩ : ∃ q, waitF (pat n s dl wd rh sl i) 4 id = q := ⟨_, rfl⟩
  rw [hq] at HW ⊢
  clear hI hB hk hq
  go_enter Try.func12, Try.ntmps12
  go_wp2_with (first | (go_at_call 25; go_loud (refine (none_ok g n f s dl ks ee wd rh sl cp i 4 id z w HI.out HB.out).mono ?_; rintro en w1 ⟨rfl, e1⟩; rw [e1]; clear e1)) | (go_at_call 28; go_loud (refine (fall_4e g n f s dl ks ee wd rh sl cp i id near z w HI.out HB.out n0 n1 n2 n3 he).mono ?_; rintro en wJ ⟨rfl, a1, a2, a3⟩; have J1 := Aside0.mk a1; have J2 := Aside0.mk a2; have J3 := Aside0.mk a3; clear a1 a2 a3)) | (go_at_call 29; go_loud (refine (rise_4t g n f s dl ks ee wd rh sl cp i id near z wJ J1.out J2.out n0 n1 n2 n3).mono ?_; rintro en wL ⟨rfl, a1, a2, a3⟩; have L1 := Aside0.mk a1; have L2 := Aside0.mk a2; have L3 := Aside0.mk a3; clear a1 a2 a3)) | (go_at_call 30; go_loud (refine (HW.out _ L1.out L2.out).mono ?_; rintro en w2 ⟨rfl, hI2, hB2, hK2⟩; have d11 : w2.cell? ⟨g, 11, none⟩ = some (.int .i64 q.1) := (blk_cell hI2.1 11).trans rfl; have HI2 := Aside0.mk hI2; have HB2 := Aside0.mk hB2; have HK2 := Aside0.mk hK2; clear hI2 hB2 hK2)))
  go_ret2
  exact ⟨rfl, HI2.out, HB2.out, (J3.out.trans L3.out (Or.inl rfl)).trans HK2.out (Or.inl rfl)⟩
set_option maxRecDepth 100000 in
set_option maxHeartbeats 4000000 in
theorem round_4f (g : Nat) (n f s dl ks ee wd rh sl cp i id near : Int) (z w : World) (hI : IsS43 z w g n f s dl ks ee wd rh sl cp i 4 id true) (hB : Below z.heap.size z w) (hk : Ok n f s dl ks ee wd rh sl cp) (i0 : 0 ≤ i) (i1 : i < n) (j0 : 0 ≤ id) (jm : id ≤ 1000000) (he : n - f ≤ near) : Calls Try.prog 12 #[.pointer (some ⟨g, 0, none⟩), .int .i64 near, .bool false] w fun en w' => en = .returned (.tuple #[.int .i64 (waitF (pat n s dl wd rh sl i) 3 id).1, .int .i64 0]) ∧ IsS43 z w' g n f s dl ks ee wd rh sl cp i (waitF (pat n s dl wd rh sl i) 3 id).1 (waitF (pat n s dl wd rh sl i) 3 id).2 true ∧ Below z.heap.size z w' ∧ KeepBut w w' g none := by
  have c11 : w.cell? ⟨g, 11, none⟩ = some (.int .i64 4) := (blk_cell hI.1 11).trans rfl
  have HI := Aside0.mk hI
  have HB := Aside0.mk hB
  have hn : 1 ≤ n ∧ n ≤ 8 ∧ 0 ≤ f ∧ f ≤ 8 := by unfold Ok at hk; omega
  obtain ⟨n0, n1, n2, n3⟩ := hn
  have HW : ∀ w1 : World, IsS43 z w1 g n f s dl ks ee wd rh sl cp i 3 id true → Below z.heap.size z w1 → Calls Try.prog 30 #[.pointer (some ⟨g, 0, none⟩)] w1 fun en w' => en = .returned (.tuple #[]) ∧ IsS43 z w' g n f s dl ks ee wd rh sl cp i (waitF (pat n s dl wd rh sl i) 3 id).1 (waitF (pat n s dl wd rh sl i) 3 id).2 true ∧ Below z.heap.size z w' ∧ KeepBut w1 w' g none := fun w1 h1 h2 => wait_any g n f s dl ks ee wd rh sl cp i 3 id z w1 h1 h2 hk i0 i1 j0 jm
  have HW := Aside0.mk HW
  obtain ⟨q, hq⟩ : ∃ q, waitF (pat n s dl wd rh sl i) 3 id = q := ⟨_, rfl⟩
  rw [hq] at HW ⊢
  clear hI hB hk hq
  go_enter Try.func12, Try.ntmps12
  go_wp2_with (first | (go_at_call 25; go_loud (refine (none_ok g n f s dl ks ee wd rh sl cp i 4 id z w HI.out HB.out).mono ?_; rintro en w1 ⟨rfl, e1⟩; rw [e1]; clear e1)) | (go_at_call 28; go_loud (refine (fall_4e g n f s dl ks ee wd rh sl cp i id near z w HI.out HB.out n0 n1 n2 n3 he).mono ?_; rintro en wJ ⟨rfl, a1, a2, a3⟩; have J1 := Aside0.mk a1; have J2 := Aside0.mk a2; have J3 := Aside0.mk a3; clear a1 a2 a3)) | (go_at_call 29; go_loud (refine (rise_4f g n f s dl ks ee wd rh sl cp i id near z wJ J1.out J2.out n0 n1 n2 n3).mono ?_; rintro en wL ⟨rfl, a1, a2, a3⟩; have L1 := Aside0.mk a1; have L2 := Aside0.mk a2; have L3 := Aside0.mk a3; clear a1 a2 a3)) | (go_at_call 30; go_loud (refine (HW.out _ L1.out L2.out).mono ?_; rintro en w2 ⟨rfl, hI2, hB2, hK2⟩; have d11 : w2.cell? ⟨g, 11, none⟩ = some (.int .i64 q.1) := (blk_cell hI2.1 11).trans rfl; have HI2 := Aside0.mk hI2; have HB2 := Aside0.mk hB2; have HK2 := Aside0.mk hK2; clear hI2 hB2 hK2)))
  go_ret2
  exact ⟨rfl, HI2.out, HB2.out, (J3.out.trans L3.out (Or.inl rfl)).trans HK2.out (Or.inl rfl)⟩
end Go.Proofs.Ytiiaooaigeenoaa.Mode2
