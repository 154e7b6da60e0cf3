/- What the closures of a buffer come to. -/
import Derived.Test.YtoeaoanaefipaaaProg
import Derived.Below
import Derived.Deep.Draws
import Derived.Deep.AppendLies
import Derived.Maps.AppendAt
import Derived.OwnWalk
import Derived.Laws.BytesArg
import Derived.Laws.MakeOwn
import Derived.Laws.OwnMore
import Derived.Deep.OwnRows
import Derived.Tactics
import Derived.Lib.ConvBytes
import Derived.Laws.Slices
import Derived.WalkKit
import Derived.KernelRfl
import Derived.RowKit3
import Derived.Deep.LoopGhost
import Derived.Deep.QuietTactic
import Derived.BigQuiet
import Derived.WideLaws
import Derived.Deep.DeepCutAuto
import Derived.Deep.CutBlock
import Derived.Deep.RegionHeld3
import Derived.Laws.Rows
import Derived.Lib.AppendStr
import Derived.ArgAppend
import Derived.Laws.IdiomCopy
import Derived.OrdersHeld
import Derived.Laws.BitsLemmas
import Derived.RowKit
import Derived.RegionTactic
import Derived.ChangeAlike
import Derived.Outline
import Derived.LoopTactic
import Derived.WalkSpells
import Derived.WalkLawsBesides
import Derived.Lib.Hide
import Derived.StillTailTactics
import Derived.Deep.RegionWith
import Derived.Deep.RegionLaw
import Derived.Deep.DeepFit
import Derived.Deep.DeepMust
import Derived.Test.YtoeaoanaefipaaaWWords
import Derived.Test.YtoeaoanaefipaaaWLast
import Derived.Test.YtoeaoanaefipaaaWTab
import Derived.Test.YtoeaoanaefipaaaWFour
import Derived.Test.YtoeaoanaefipaaaWQPut
import Derived.Test.YtoeaoanaefipaaaWApart
import Derived.Test.YtoeaoanaefipaaaWArr
import Derived.Test.YtoeaoanaefipaaaWZeros
import Derived.Test.YtoeaoanaefipaaaWFoot
import Derived.Test.YtoeaoanaefipaaaWKept
import Derived.Test.YtoeaoanaefipaaaWShare
import Derived.Test.YtoeaoanaefipaaaWN
import Derived.Test.YtoeaoanaefipaaaWFootNe
import Derived.Test.YtoeaoanaefipaaaWAt
import Derived.Test.YtoeaoanaefipaaaWEqStruct
import Derived.Test.YtoeaoanaefipaaaWRepsOne
import Derived.Test.YtoeaoanaefipaaaWInv
import Derived.Test.YtoeaoanaefipaaaWInvWords
import Derived.Test.YtoeaoanaefipaaaWGuard
import Derived.Test.YtoeaoanaefipaaaWNEv
import Derived.Test.YtoeaoanaefipaaaWMore
import Derived.Test.YtoeaoanaefipaaaBf2
namespace Go.Proofs.Ytoeaoanaefipaaa.Bf3
open Go.RowKit Go.Proofs.YtoeaoanaefipaaaW.PrintWords Go.Proofs.YtoeaoanaefipaaaW.PrintLast Go.Proofs.YtoeaoanaefipaaaW.PrintMore 
attribute [local go_sem] max2_int min2_int max_two min_two max_three min_three max_four min_four
set_option linter.unusedVariables false
set_option linter.unusedSimpArgs false
open Go.Maps Go.ChangeMaps Go.Proofs.Ytoeaoanaefipaaa.Bf1 Go.Proofs.Ytoeaoanaefipaaa.Bf2
attribute [local go_sem] cellS1 frozenS1 cellS2 frozenS2 cellS3 frozenS3 cellS4 frozenS4 cellS5 frozenS5 cellS6 frozenS6

theorem results_c1 {P : Program} {fn : Func} {p : Tmp} {ty : TypeId} (h : fn.results = #[.cell p ty]) (tmps : Array Value) (w : World) (g : Nat) (t : TypeId) (cs : Array Value) (fr : Nat × Nat) (d : TypeDesc)
    (hp : tmps.getD p undef = .pointer (some ⟨g, 0, none⟩)) (hg : w.heap[g]? = some (.cells cs t fr))
    (hu : P.underlying ty = some d) (hd : (match d with | .struct _ | .array _ _ => true | _ => false) = true) (hi : (P.info? ty).map (·.size) = some cs.size) :
    (results fn tmps).run P w = .ok (.agg cs) w := by
  have hp' : tmps[p]?.getD undef = .pointer (some ⟨g, 0, none⟩) := by simpa using hp
  simp [results, h, hp', asAddr, run_loadVar_row w g t ty cs fr d hg hu hd hi]
theorem own_slice2 {W : World} {b m size : Nat} {e : TypeId} {v : Value} {xs : List Value} (h : W.ownsRow b e size v m xs) : ∃ A c, v = .slice A m c := by
  rcases h.2 with ⟨e, h0⟩ | ⟨g, cap, cur, e, _⟩
  · exact ⟨none, 0, by rw [e, h0]⟩
  · exact ⟨_, _, e⟩
theorem row_at_ {W : World} {b m c size : Nat} {e : TypeId} {A : Option Addr} {xs : List Value} (h : W.ownsRow b e size (.slice A m c) m xs) (hm : 0 < m) : ∃ g, A = some ⟨g, 0, none⟩ ∧ b ≤ g ∧ ∀ j v, j < m * size → xs[j]? = some v → W.cell? ⟨g, j, none⟩ = some v := by
  rcases h.2 with ⟨e, h0⟩ | ⟨g, cap, cur, e, hb, hg, _, _, hs, ht⟩
  · omega
  · cases e
    refine ⟨g, rfl, hb, fun j v hj hv => ?_⟩
    rw [← ht] at hv
    rw [List.getElem?_take_of_lt hj] at hv
    rw [blk_cell hg]
    simpa using hv
theorem flat3_at (l : List It) (d : Nat) (hd : d < l.length) : (flat3 l)[d * 3]? = some (.int .i64 (l[d]).1) ∧ (flat3 l)[d * 3 + 1]? = some (.int .i64 (l[d]).2.1) ∧ (flat3 l)[d * 3 + 2]? = some (.string (strOfNums (l[d]).2.2)) := by
  induction l generalizing d with
  | nil => exact absurd hd (Nat.not_lt_zero _)
  | cons p l ih =>
    cases d with
    | zero => exact ⟨rfl, rfl, rfl⟩
    | succ d =>
      have := ih d (by simpa using hd)
      refine ⟨?_, ?_, ?_⟩
      · rw [show (d + 1) * 3 = d * 3 + 1 + 1 + 1 by omega]; exact this.1
      · rw [show (d + 1) * 3 + 1 = d * 3 + 1 + 1 + 1 + 1 by omega]; exact this.2.1
      · rw [show (d + 1) * 3 + 2 = d * 3 + 2 + 1 + 1 + 1 by omega]; exact this.2.2
theorem flat3_snoc (l : List It) (x : It) : flat3 (l ++ [x]) = flat3 l ++ [.int .i64 x.1, .int .i64 x.2.1, .string (strOfNums x.2.2)] := by unfold flat3; simp
theorem row_it {W : World} {b c d : Nat} {A : Option Addr} {l : List It} (h : W.ownsRow b 53 3 (.slice A l.length c) l.length (flat3 l)) (hd : d < l.length) : ∃ g, A = some ⟨g, 0, none⟩ ∧ b ≤ g ∧ W.cell? ⟨g, d * 3, none⟩ = some (.int .i64 (l[d]).1) ∧ W.cell? ⟨g, d * 3 + 1, none⟩ = some (.int .i64 (l[d]).2.1) ∧ W.cell? ⟨g, d * 3 + 2, none⟩ = some (.string (strOfNums (l[d]).2.2)) := by
  obtain ⟨g, e, hb, hx⟩ := row_at_ h (by omega)
  obtain ⟨f1, f2, f3⟩ := flat3_at l d hd
  exact ⟨g, e, hb, hx _ _ (by omega) f1, hx _ _ (by omega) f2, hx _ _ (by omega) f3⟩
theorem behind_ok (a b c d : Int) (w : World) : Calls Try.prog 28 #[kv a b, kv c d] w fun en w' => en = .returned (.bool (decide (c < a) || (a == c && decide (d < b)))) ∧ Below w.heap.size w w' := by
  unfold kv
  go_enter Try.func28, Try.ntmps28
  go_wp2
  all_goals (try go_ret)
  all_goals refine ⟨?_, below_alloc (below_alloc (Below.refl _ _) _) _⟩
  all_goals simp_all
  all_goals omega
theorem put1_ok (i at_ : Int) (x : It) (c : Nat) (w : World) (hc : w.heap[c]? = some (.cells #[.int .i64 at_] 3 (0, 0))) : Calls Try.prog 25 #[.int .i64 i, iv x, .pointer (some ⟨c, 0, none⟩)] w fun en w' => en = .returned (.bool (i != at_)) ∧ Below w.heap.size w w' := by
  have c0 : w.cell? ⟨c, 0, none⟩ = some (.int .i64 at_) := (blk_cell hc 0).trans rfl
  obtain ⟨a, b, s⟩ := x
  unfold iv
  go_enter Try.func25, Try.ntmps25
  go_wp2
  go_ret
  exact ⟨rfl, below_alloc (Below.refl _ _) _⟩
theorem take1_ok (i : Int) (x : It) (p q : Int) (c : Nat) (w : World) (hc : w.heap[c]? = some (.cells #[.int .i64 p, .int .i64 q] 51 (0, 0))) : Calls Try.prog 26 #[.int .i64 i, iv x, .pointer (some ⟨c, 0, none⟩)] w fun en w' => en = .returned (.bool (!decide (x.1 = p ∧ x.2.1 = q))) ∧ Below w.heap.size w w' := by
  have c0 : w.cell? ⟨c, 0, none⟩ = some (.int .i64 p) := (blk_cell hc 0).trans rfl
  have c1 : w.cell? ⟨c, 1, none⟩ = some (.int .i64 q) := (blk_cell hc 1).trans rfl
  obtain ⟨a, b, s⟩ := x
  unfold iv
  have hq := fun w => eq_kv w a b p q
  go_enter Try.func26, Try.ntmps26
  go_wp2
  go_ret
  refine ⟨?_, below_alloc (Below.refl _ _) _⟩
  simp
  rfl
theorem drop1_ok (i : Int) (x : It) (p q : Int) (c : Nat) (w : World) (hc : w.heap[c]? = some (.cells #[.int .i64 p, .int .i64 q] 51 (0, 0))) : Calls Try.prog 27 #[.int .i64 i, iv x, .pointer (some ⟨c, 0, none⟩)] w fun en w' => en = .returned (.bool (decide (p < x.1) || (x.1 == p && decide (q < x.2.1)))) ∧ Below w.heap.size w w' := by
  have c0 : w.cell? ⟨c, 0, none⟩ = some (.int .i64 p) := (blk_cell hc 0).trans rfl
  have c1 : w.cell? ⟨c, 1, none⟩ = some (.int .i64 q) := (blk_cell hc 1).trans rfl
  obtain ⟨a, b, s⟩ := x
  unfold iv
  have hbh : ∀ w, Calls Try.prog 28 #[.agg #[.int .i64 a, .int .i64 b], .agg #[.int .i64 p, .int .i64 q]] w fun en w' => en = .returned (.bool (decide (p < a) || (a == p && decide (q < b)))) ∧ Below w.heap.size w w' := fun w => behind_ok a b p q w
  have HBH := Aside0.mk hbh
  clear hbh
  go_enter Try.func27, Try.ntmps27
  go_wp2_with (first | (go_at_call 28; go_loud (refine (HBH.out _).mono ?_; rintro en w1 ⟨rfl, hb⟩; have B1 := Aside0.mk hb; clear hb)))
  go_ret
  exact ⟨rfl, (below_alloc (Below.refl _ _) _).trans (B1.out.mono (by simp))⟩
end Go.Proofs.Ytoeaoanaefipaaa.Bf3
