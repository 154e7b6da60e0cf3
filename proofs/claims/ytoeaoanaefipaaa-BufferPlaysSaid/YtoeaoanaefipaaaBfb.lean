/- Putting; awake. -/
import Derived.Test.YtoeaoanaefipaaaProg
import Derived.Below
import Derived.Deep.Draws
import Derived.Deep.AppendLies
import Derived.Maps.AppendAt
import Derived.OwnWalk
import Derived.Laws.BytesArg
import Derived.Laws.MakeOwn
import Derived.Laws.OwnMore
import Derived.Deep.OwnRows
import Derived.Tactics
import Derived.Lib.ConvBytes
import Derived.Laws.Slices
import Derived.WalkKit
import Derived.KernelRfl
import Derived.RowKit3
import Derived.Deep.LoopGhost
import Derived.Deep.QuietTactic
import Derived.BigQuiet
import Derived.WideLaws
import Derived.Deep.DeepCutAuto
import Derived.Deep.CutBlock
import Derived.Deep.RegionHeld3
import Derived.Laws.Rows
import Derived.Lib.AppendStr
import Derived.ArgAppend
import Derived.Laws.IdiomCopy
import Derived.OrdersHeld
import Derived.Laws.BitsLemmas
import Derived.RowKit
import Derived.RegionTactic
import Derived.ChangeAlike
import Derived.Outline
import Derived.LoopTactic
import Derived.WalkSpells
import Derived.WalkLawsBesides
import Derived.Lib.Hide
import Derived.StillTailTactics
import Derived.Deep.RegionWith
import Derived.Deep.RegionLaw
import Derived.Deep.DeepFit
import Derived.Deep.DeepMust
import Derived.Test.YtoeaoanaefipaaaWWords
import Derived.Test.YtoeaoanaefipaaaWLast
import Derived.Test.YtoeaoanaefipaaaWTab
import Derived.Test.YtoeaoanaefipaaaWFour
import Derived.Test.YtoeaoanaefipaaaWQPut
import Derived.Test.YtoeaoanaefipaaaWApart
import Derived.Test.YtoeaoanaefipaaaWArr
import Derived.Test.YtoeaoanaefipaaaWZeros
import Derived.Test.YtoeaoanaefipaaaWFoot
import Derived.Test.YtoeaoanaefipaaaWKept
import Derived.Test.YtoeaoanaefipaaaWShare
import Derived.Test.YtoeaoanaefipaaaWN
import Derived.Test.YtoeaoanaefipaaaWFootNe
import Derived.Test.YtoeaoanaefipaaaWAt
import Derived.Test.YtoeaoanaefipaaaWEqStruct
import Derived.Test.YtoeaoanaefipaaaWRepsOne
import Derived.Test.YtoeaoanaefipaaaWInv
import Derived.Test.YtoeaoanaefipaaaWInvWords
import Derived.Test.YtoeaoanaefipaaaWGuard
import Derived.Test.YtoeaoanaefipaaaWNEv
import Derived.Test.YtoeaoanaefipaaaWMore
import Derived.Test.YtoeaoanaefipaaaBfa
import Derived.Test.YtoeaoanaefipaaaBfQ
namespace Go.Proofs.Ytoeaoanaefipaaa.Bfb
open Go.RowKit Go.Proofs.YtoeaoanaefipaaaW.PrintWords Go.Proofs.YtoeaoanaefipaaaW.PrintLast Go.Proofs.YtoeaoanaefipaaaW.PrintMore 
attribute [local go_sem] max2_int min2_int max_two min_two max_three min_three max_four min_four
set_option linter.unusedVariables false
set_option linter.unusedSimpArgs false
open Go.Maps Go.ChangeMaps Go.Proofs.Ytoeaoanaefipaaa.Bf1 Go.Proofs.Ytoeaoanaefipaaa.Bf2 Go.Proofs.Ytoeaoanaefipaaa.Bf3 Go.Proofs.Ytoeaoanaefipaaa.BfP Go.Proofs.Ytoeaoanaefipaaa.Bf4 Go.Proofs.Ytoeaoanaefipaaa.Bf5 Go.Proofs.Ytoeaoanaefipaaa.Bf6 Go.Proofs.Ytoeaoanaefipaaa.Bf7 Go.Proofs.Ytoeaoanaefipaaa.Bf8 Go.Proofs.Ytoeaoanaefipaaa.Bf9 Go.Proofs.Ytoeaoanaefipaaa.BfN Go.Proofs.Ytoeaoanaefipaaa.Bfa Go.Proofs.Ytoeaoanaefipaaa.BfQ
attribute [local go_sem] cellS1 frozenS1 cellS2 frozenS2 cellS3 frozenS3 cellS4 frozenS4 cellS5 frozenS5 cellS6 frozenS6

theorem buf_put (g : Nat) (mo : Int) (L : List It) (lo : Int) (m : Nat) (a b : Int) (As : Option Addr) (s : List Int) (cs : Nat) (z w : World) (h : IsBuf z w g mo L lo m) (hC : ∀ W, Keep z w W → Kd.C (Kd.int .u8) W As s.length s) (hs : ∀ y ∈ s, 0 ≤ y ∧ y ≤ 255) (hm : m + 66 < maxLen) (hsl : s.length ≤ maxLen) : Calls Try.prog 8 #[.pointer (some ⟨g, 0, none⟩), .int .i64 a, .int .i64 b, .slice As s.length cs] w fun en w' => en = .returned (.int .i64 (putS mo L lo a b s).1) ∧ IsBuf z w' g mo (putS mo L lo a b s).2.1 (putS mo L lo a b s).2.2 (m + 66) ∧ Keep z w w' := by
  by_cases hv : 0 ≤ a ∧ a ≤ 65535 ∧ 1 ≤ b ∧ b ≤ 256 ∧ s.length ≤ 96
  · exact put_good g mo L lo m a b As s cs z w h hC hs hm hv
  · refine (put_bad g mo L lo m a b As s cs z w h (by unfold maxLen at hsl; omega) hv).mono ?_
    rintro en w' ⟨rfl, rfl⟩
    have hp : putS mo L lo a b s = (1, L, lo) := by unfold putS; rw [if_pos hv]
    rw [hp]
    exact ⟨rfl, h.mono (by omega), Keep.refl _ _⟩
theorem bytes_C {z w W : World} {k : Nat} {cs : Array Value} {fr : Nat × Nat} {b : List Int} (h1 : w.heap[k]? = some (.cells cs 5 fr)) (h2 : ∀ j, j < b.length → cs[j]? = some (.int .u8 (b.getD j 0))) (hb : b.length ≤ maxLen) (h : Keep z w W) : Kd.C (Kd.int .u8) W (some ⟨k, 0, none⟩) b.length b := by
  have h3 : W.heap[k]? = some (.cells cs 5 fr) := (h.block k (blk_lt h1) (Or.inr ⟨_, h1, fun hk => by
    rcases hk with hk | ⟨cs', t, fr', e, ht⟩
    · exact hk _ _ _ rfl
    · cases e
      rcases ht with e | e <;> cases e⟩)).trans h1
  refine Kd.C_of_reads (d := (0 : Int)) (h1 := fun _ => rfl) ⟨rfl, hb, fun _ => ⟨_, rfl, fun j hj => ?_⟩⟩
  rw [show ((⟨k, 0, none⟩ : Addr).add j) = ⟨k, j, none⟩ by simp [Addr.add] <;> omega, cell_any h3, h2 j hj]
theorem two_get (x y : Int) : ∀ j, j < [x, y].length → (#[Value.int .u8 x, Value.int .u8 y] : Array Value)[j]? = some (.int .u8 ([x, y].getD j 0)) := by
  intro j hj
  match j, hj with
  | 0, _ => rfl
  | 1, _ => rfl
set_option maxRecDepth 100000 in
set_option maxHeartbeats 1000000 in
theorem awake_ok (w : World) : Calls Try.prog 11 #[] w fun en w' => en = .returned (.bool true) ∧ Below w.heap.size w w' := by
  have hp : putS 2 [] 0 1 1 [1] = (0, [(1, 1, [1])], 0) := by decide
  have HP := Aside0.mk hp
  clear hp
  go_enter Try.func11, Try.ntmps11
  go_wp2_with (first | (go_at_call 7; go_loud (refine (buf_new 2 _ (by decide) (by decide)).mono ?_; rintro en w1 ⟨g, rfl, a1, a2⟩; have J1 := Aside0.mk a1; have J2 := Aside0.mk a2; clear a1 a2)) | (go_at_call 8; go_loud (refine (buf_put g 2 [] 0 0 1 1 (some ⟨w1.heap.size, 0, none⟩) [1] 1 w _ (J1.out.alloc _) (fun W hW => bytes_C (cs := #[.int .u8 1]) (fr := (0, 0)) (blk_new _ _) (fun j hj => by match j, hj with | 0, _ => rfl) (by decide) hW) (by intro y hy; simp at hy; omega) (by decide) (by decide)).mono ?_; rw [HP.out]; rintro en w2 ⟨rfl, a1, a2⟩; have L1 := Aside0.mk a1; have L2 := Aside0.mk a2; clear a1 a2)) | (go_at_call 10; go_loud (refine (buf_len g 2 [(1, 1, [1])] 0 _ w _ L1.out).mono ?_; rintro en w3 ⟨rfl, rfl⟩)))
  go_ret
  exact ⟨rfl, (Keep.below L2.out (below_alloc J2.out _) (Nat.le_refl _))⟩
end Go.Proofs.Ytoeaoanaefipaaa.Bfb
