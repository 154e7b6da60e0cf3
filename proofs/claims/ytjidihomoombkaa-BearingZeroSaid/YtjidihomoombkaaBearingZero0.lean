/- What nobody made answers nothing. -/
import Derived.Test.YtjidihomoombkaaProg
import Derived.Below
import Derived.Deep.Draws
import Derived.Deep.AppendLies
import Derived.Maps.AppendAt
import Derived.OwnWalk
import Derived.Laws.BytesArg
import Derived.Laws.MakeOwn
import Derived.Laws.OwnMore
import Derived.Deep.OwnRows
import Derived.Tactics
import Derived.Lib.ConvBytes
import Derived.Laws.Slices
import Derived.WalkKit
import Derived.KernelRfl
import Derived.RowKit3
import Derived.Deep.LoopGhost
import Derived.Deep.QuietTactic
import Derived.BigQuiet
import Derived.WideLaws
import Derived.Deep.DeepCutAuto
import Derived.Deep.CutBlock
import Derived.Deep.RegionHeld3
import Derived.Laws.Rows
import Derived.Lib.AppendStr
import Derived.ArgAppend
import Derived.Laws.IdiomCopy
import Derived.OrdersHeld
import Derived.Laws.BitsLemmas
import Derived.RowKit
import Derived.RegionTactic
import Derived.ChangeAlike
import Derived.Outline
import Derived.LoopTactic
import Derived.WalkSpells
import Derived.WalkLawsBesides
import Derived.Lib.Hide
import Derived.StillTailTactics
import Derived.Deep.RegionWith
import Derived.Deep.RegionLaw
import Derived.Deep.DeepFit
import Derived.Deep.DeepMust
import Derived.Test.YtjidihomoombkaaWWords
import Derived.Test.YtjidihomoombkaaWLast
import Derived.Test.YtjidihomoombkaaWTab
import Derived.Test.YtjidihomoombkaaWFour
import Derived.Test.YtjidihomoombkaaWQPut
import Derived.Test.YtjidihomoombkaaWApart
import Derived.Test.YtjidihomoombkaaWArr
import Derived.Test.YtjidihomoombkaaWZeros
import Derived.Test.YtjidihomoombkaaWFoot
import Derived.Test.YtjidihomoombkaaWKept
import Derived.Test.YtjidihomoombkaaWShare
import Derived.Test.YtjidihomoombkaaWN
import Derived.Test.YtjidihomoombkaaWFootNe
import Derived.Test.YtjidihomoombkaaWAt
import Derived.Test.YtjidihomoombkaaWEqStruct
import Derived.Test.YtjidihomoombkaaWRepsOne
import Derived.Test.YtjidihomoombkaaWInv
import Derived.Test.YtjidihomoombkaaWInvWords
import Derived.Test.YtjidihomoombkaaWGuard
import Derived.Test.YtjidihomoombkaaWNEv
import Derived.Test.YtjidihomoombkaaWMore
namespace Go.Proofs.Ytjidihomoombkaa.BearingZero0
open Go.RowKit Go.Proofs.YtjidihomoombkaaW.PrintWords Go.Proofs.YtjidihomoombkaaW.PrintLast Go.Proofs.YtjidihomoombkaaW.PrintMore 
attribute [local go_sem] max2_int min2_int max_two min_two max_three min_three max_four min_four
set_option linter.unusedVariables false
set_option linter.unusedSimpArgs false
theorem results_cv {P : Program} {fn : Func} {p p' : Tmp} {ty ty' : TypeId} (h : fn.results = #[.cell p ty, .cell p' ty']) (tmps : Array Value) (w : World) (g g' : Nat) (t : TypeId) (cs : Array Value) (fr : Nat × Nat) (d : TypeDesc) (v : Value)
    (hp : tmps.getD p undef = .pointer (some ⟨g, 0, none⟩)) (hg : w.heap[g]? = some (.cells cs t fr))
    (hu : P.underlying ty = some d) (hd : (match d with | .struct _ | .array _ _ => true | _ => false) = true) (hi : (P.info? ty).map (·.size) = some cs.size)
    (hp' : tmps.getD p' undef = .pointer (some ⟨g', 0, none⟩)) (hl : (loadVar ty' ⟨g', 0, none⟩).run P w = .ok v w) :
    (results fn tmps).run P w = .ok (.tuple #[.agg cs, v]) w := by
  have h1 : tmps[p]?.getD undef = .pointer (some ⟨g, 0, none⟩) := by simpa using hp
  have h2 : tmps[p']?.getD undef = .pointer (some ⟨g', 0, none⟩) := by simpa using hp'
  simp [results, h, h1, h2, asAddr, run_loadVar_row w g t ty cs fr d hg hu hd hi, hl]
theorem hp_under {w : World} {o x : Obj} {g : Nat} (h : w.heap[g]? = some x) : (w.alloc o).heap[g]? = some x := by
  have := (Array.getElem?_eq_some_iff.1 h).1
  show (w.heap.push o)[g]? = some x
  rw [Array.getElem?_push_lt this, ← Array.getElem?_eq_getElem this, h]
theorem hp_top {w : World} {o : Obj} {g : Nat} (h : g = w.heap.size) : (w.alloc o).heap[g]? = some o := by subst h; show (w.heap.push o)[w.heap.size]? = some o; simp
set_option maxRecDepth 100000 in
set_option maxHeartbeats 8000000 in
theorem zero_any (a : Int) (w : World) : Calls Try.prog 5 #[.int .i64 a] w fun e w' => e = .returned (.bool true) ∧ Below w.heap.size w w' := by
  have hm := fun w => run_eql_map_nil (P := Try.prog) w 49 3 70 none Try.underlying49
  go_enter Try.func5, Try.ntmps5
  go_wp2
  repeat (first | (refine bodyPost_ret (results_cv rfl _ _ _ _ 35 #[.int .i64 0, .int .i64 0] (0, 0) _ (.int .i64 7) rfl (hp_under (hp_top (by first | rfl | simp))) Try.underlying35 rfl rfl rfl (by go_simp)) rfl ?_; (try simp only []); go_wp2) | (refine bodyPost_ret (results_ct rfl _ _ _ 35 #[.int .i64 0, .int .i64 0] (0, 0) _ rfl (hp_top (by first | rfl | simp)) Try.underlying35 rfl rfl) rfl ?_; (try simp only []); go_wp2) | (refine bodyPost_ret (results_none rfl _ _ _) rfl ?_; go_wp2) | (refine bodyPost_end (results_none rfl _ _ _) rfl ?_; go_wp2) | (refine bodyPost_ret (results_tmp3 rfl _ _ _) rfl ?_; go_wp2))
  go_ret
  exact ⟨rfl, by repeat (first | exact Below.refl _ _ | refine Below.drew ?_ | refine Below.alloc ?_ (by simp; try omega) _)⟩
end Go.Proofs.Ytjidihomoombkaa.BearingZero0
