/- What nobody made answers nothing. -/
import Derived.Test.YtcffphhncpdjfaaProg
import Derived.Below
import Derived.Deep.Draws
import Derived.Deep.AppendLies
import Derived.Maps.AppendAt
import Derived.OwnWalk
import Derived.Laws.BytesArg
import Derived.Laws.MakeOwn
import Derived.Laws.OwnMore
import Derived.Deep.OwnRows
import Derived.Tactics
import Derived.Lib.ConvBytes
import Derived.Laws.Slices
import Derived.WalkKit
import Derived.KernelRfl
import Derived.RowKit3
import Derived.Deep.LoopGhost
import Derived.Deep.QuietTactic
import Derived.BigQuiet
import Derived.WideLaws
import Derived.Deep.DeepCutAuto
import Derived.Deep.CutBlock
import Derived.Deep.RegionHeld3
import Derived.Laws.Rows
import Derived.Lib.AppendStr
import Derived.ArgAppend
import Derived.Laws.IdiomCopy
import Derived.OrdersHeld
import Derived.Laws.BitsLemmas
import Derived.RowKit
import Derived.RegionTactic
import Derived.ChangeAlike
import Derived.Outline
import Derived.LoopTactic
import Derived.WalkSpells
import Derived.WalkLawsBesides
import Derived.Lib.Hide
import Derived.StillTailTactics
import Derived.Deep.RegionWith
import Derived.Deep.RegionLaw
import Derived.Deep.DeepFit
import Derived.Deep.DeepMust
import Derived.Test.YtcffphhncpdjfaaWWords
import Derived.Test.YtcffphhncpdjfaaWLast
import Derived.Test.YtcffphhncpdjfaaWTab
import Derived.Test.YtcffphhncpdjfaaWFour
import Derived.Test.YtcffphhncpdjfaaWQPut
import Derived.Test.YtcffphhncpdjfaaWApart
import Derived.Test.YtcffphhncpdjfaaWArr
import Derived.Test.YtcffphhncpdjfaaWZeros
import Derived.Test.YtcffphhncpdjfaaWFoot
import Derived.Test.YtcffphhncpdjfaaWKept
import Derived.Test.YtcffphhncpdjfaaWShare
import Derived.Test.YtcffphhncpdjfaaWN
import Derived.Test.YtcffphhncpdjfaaWFootNe
import Derived.Test.YtcffphhncpdjfaaWAt
import Derived.Test.YtcffphhncpdjfaaWEqStruct
import Derived.Test.YtcffphhncpdjfaaWRepsOne
import Derived.Test.YtcffphhncpdjfaaWInv
import Derived.Test.YtcffphhncpdjfaaWInvWords
import Derived.Test.YtcffphhncpdjfaaWGuard
import Derived.Test.YtcffphhncpdjfaaWNEv
import Derived.Test.YtcffphhncpdjfaaWMore
namespace Go.Proofs.Ytcffphhncpdjfaa.TasksZero0
open Go.RowKit Go.Proofs.YtcffphhncpdjfaaW.PrintWords Go.Proofs.YtcffphhncpdjfaaW.PrintLast Go.Proofs.YtcffphhncpdjfaaW.PrintMore 
attribute [local go_sem] max2_int min2_int max_two min_two max_three min_three max_four min_four
set_option linter.unusedVariables false
set_option linter.unusedSimpArgs false
theorem results_cv {P : Program} {fn : Func} {p p' : Tmp} {ty ty' : TypeId} (h : fn.results = #[.cell p ty, .cell p' ty']) (tmps : Array Value) (w : World) (g g' : Nat) (t : TypeId) (cs : Array Value) (fr : Nat × Nat) (d : TypeDesc) (v : Value)
    (hp : tmps.getD p undef = .pointer (some ⟨g, 0, none⟩)) (hg : w.heap[g]? = some (.cells cs t fr))
    (hu : P.underlying ty = some d) (hd : (match d with | .struct _ | .array _ _ => true | _ => false) = true) (hi : (P.info? ty).map (·.size) = some cs.size)
    (hp' : tmps.getD p' undef = .pointer (some ⟨g', 0, none⟩)) (hl : (loadVar ty' ⟨g', 0, none⟩).run P w = .ok v w) :
    (results fn tmps).run P w = .ok (.tuple #[.agg cs, v]) w := by
  have h1 : tmps[p]?.getD undef = .pointer (some ⟨g, 0, none⟩) := by simpa using hp
  have h2 : tmps[p']?.getD undef = .pointer (some ⟨g', 0, none⟩) := by simpa using hp'
  simp [results, h, h1, h2, asAddr, run_loadVar_row w g t ty cs fr d hg hu hd hi, hl]
theorem hp_under {w : World} {o x : Obj} {g : Nat} (h : w.heap[g]? = some x) : (w.alloc o).heap[g]? = some x := by
  have := (Array.getElem?_eq_some_iff.1 h).1
  show (w.heap.push o)[g]? = some x
  rw [Array.getElem?_push_lt this, ← Array.getElem?_eq_getElem this, h]
theorem hp_top {w : World} {o : Obj} {g : Nat} (h : g = w.heap.size) : (w.alloc o).heap[g]? = some o := by subst h; show (w.heap.push o)[w.heap.size]? = some o; simp
set_option maxRecDepth 100000 in
set_option maxHeartbeats 8000000 in
theorem zero_any (a b : Int) (w : World) : Calls Try.prog 3 #[.int .i64 a, .int .i64 b] w fun e w' => e = .returned (.bool true) ∧ Below w.heap.size w w' := by
  go_enter Try.func3, Try.ntmps3
  go_wp2
  repeat (first | (refine bodyPost_ret (results_cv rfl _ _ _ _ 29 #[.int .i64 0, .int .i64 0, .int .i64 0, .int .i64 0] (0, 0) _ (.int .i64 7) rfl (hp_under (hp_top (by first | rfl | simp))) Try.underlying29 rfl rfl rfl (by go_simp)) rfl ?_; (try simp only []); go_wp2) | (refine bodyPost_ret (results_ct rfl _ _ _ 29 #[.int .i64 0, .int .i64 0, .int .i64 0, .int .i64 0] (0, 0) _ rfl (hp_top (by first | rfl | simp)) Try.underlying29 rfl rfl) rfl ?_; (try simp only []); go_wp2) | (refine bodyPost_ret (results_none rfl _ _ _) rfl ?_; go_wp2) | (refine bodyPost_end (results_none rfl _ _ _) rfl ?_; go_wp2) | (refine bodyPost_ret (results_tmp3 rfl _ _ _) rfl ?_; go_wp2))
  go_ret
  exact ⟨rfl, by repeat (first | exact Below.refl _ _ | refine Below.drew ?_ | refine Below.alloc ?_ (by simp; try omega) _)⟩
end Go.Proofs.Ytcffphhncpdjfaa.TasksZero0
