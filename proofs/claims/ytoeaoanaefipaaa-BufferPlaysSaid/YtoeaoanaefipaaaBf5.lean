/- The newest of a cell. -/
import Derived.Test.YtoeaoanaefipaaaProg
import Derived.Below
import Derived.Deep.Draws
import Derived.Deep.AppendLies
import Derived.Maps.AppendAt
import Derived.OwnWalk
import Derived.Laws.BytesArg
import Derived.Laws.MakeOwn
import Derived.Laws.OwnMore
import Derived.Deep.OwnRows
import Derived.Tactics
import Derived.Lib.ConvBytes
import Derived.Laws.Slices
import Derived.WalkKit
import Derived.KernelRfl
import Derived.RowKit3
import Derived.Deep.LoopGhost
import Derived.Deep.QuietTactic
import Derived.BigQuiet
import Derived.WideLaws
import Derived.Deep.DeepCutAuto
import Derived.Deep.CutBlock
import Derived.Deep.RegionHeld3
import Derived.Laws.Rows
import Derived.Lib.AppendStr
import Derived.ArgAppend
import Derived.Laws.IdiomCopy
import Derived.OrdersHeld
import Derived.Laws.BitsLemmas
import Derived.RowKit
import Derived.RegionTactic
import Derived.ChangeAlike
import Derived.Outline
import Derived.LoopTactic
import Derived.WalkSpells
import Derived.WalkLawsBesides
import Derived.Lib.Hide
import Derived.StillTailTactics
import Derived.Deep.RegionWith
import Derived.Deep.RegionLaw
import Derived.Deep.DeepFit
import Derived.Deep.DeepMust
import Derived.Test.YtoeaoanaefipaaaWWords
import Derived.Test.YtoeaoanaefipaaaWLast
import Derived.Test.YtoeaoanaefipaaaWTab
import Derived.Test.YtoeaoanaefipaaaWFour
import Derived.Test.YtoeaoanaefipaaaWQPut
import Derived.Test.YtoeaoanaefipaaaWApart
import Derived.Test.YtoeaoanaefipaaaWArr
import Derived.Test.YtoeaoanaefipaaaWZeros
import Derived.Test.YtoeaoanaefipaaaWFoot
import Derived.Test.YtoeaoanaefipaaaWKept
import Derived.Test.YtoeaoanaefipaaaWShare
import Derived.Test.YtoeaoanaefipaaaWN
import Derived.Test.YtoeaoanaefipaaaWFootNe
import Derived.Test.YtoeaoanaefipaaaWAt
import Derived.Test.YtoeaoanaefipaaaWEqStruct
import Derived.Test.YtoeaoanaefipaaaWRepsOne
import Derived.Test.YtoeaoanaefipaaaWInv
import Derived.Test.YtoeaoanaefipaaaWInvWords
import Derived.Test.YtoeaoanaefipaaaWGuard
import Derived.Test.YtoeaoanaefipaaaWNEv
import Derived.Test.YtoeaoanaefipaaaWMore
import Derived.Test.YtoeaoanaefipaaaBf4
import Derived.WalkMore
namespace Go.Proofs.Ytoeaoanaefipaaa.Bf5
open Go.RowKit Go.Proofs.YtoeaoanaefipaaaW.PrintWords Go.Proofs.YtoeaoanaefipaaaW.PrintLast Go.Proofs.YtoeaoanaefipaaaW.PrintMore 
attribute [local go_sem] max2_int min2_int max_two min_two max_three min_three max_four min_four
set_option linter.unusedVariables false
set_option linter.unusedSimpArgs false
open Go.Maps Go.ChangeMaps Go.Proofs.Ytoeaoanaefipaaa.Bf1 Go.Proofs.Ytoeaoanaefipaaa.Bf2 Go.Proofs.Ytoeaoanaefipaaa.Bf3 Go.Proofs.Ytoeaoanaefipaaa.BfP Go.Proofs.Ytoeaoanaefipaaa.Bf4
attribute [local go_sem] cellS1 frozenS1 cellS2 frozenS2 cellS3 frozenS3 cellS4 frozenS4 cellS5 frozenS5 cellS6 frozenS6

theorem newT_step (L : List It) (p q : Int) (k : Nat) (hk : k < L.length) : newT L (p, q) (k + 1) = if L[k].1 = p ∧ L[k].2.1 = q then (k : Int) else newT L (p, q) k := by
  rw [newT, List.getD_eq_getElem?_getD, List.getElem?_eq_getElem hk]; rfl
set_option maxRecDepth 100000 in
set_option maxHeartbeats 600000 in
theorem newest_ok (g bm : Nat) (mo : Int) (A : Option Addr) (c : Nat) (lo : Int) (b : Nat) (L : List It) (p q : Int) (z w : World) (hI : IsB z w g bm mo (.slice A L.length c) lo) (hr : w.ownsRow b 53 3 (.slice A L.length c) L.length (flat3 L)) (hm : L.length ≤ 64) : Calls Try.prog 23 #[.pointer (some ⟨g, 0, none⟩), kv p q] w fun en w' => en = .returned (.int .i64 (newT L (p, q) L.length)) ∧ Below w.heap.size w w' := by
  have HI := Aside0.mk hI
  have HR := Aside0.mk hr
  have c1 : w.cell? ⟨g, 1, none⟩ = some (.slice A L.length c) := (blk_cell hI.1 1).trans rfl
  obtain ⟨T, hT⟩ : ∃ T, newT L (p, q) L.length = T := ⟨_, rfl⟩
  rw [hT]
  have HT := Aside0.mk hT
  clear hI hr hT
  unfold kv
  go_enter Try.func23, Try.ntmps23
  go_wp2_with fail
  go_step3
  go_wp2
  go_step3
  (try go_wp2)
  go_loopw [5] (fun vi wr => ∃ (d : Nat) (v : Int), vi = .int .i64 v ∧ v = (d : Int) - 1 ∧ d ≤ L.length ∧ Aside0 (newT L (p, q) d = T) ∧ Aside0 (wr.heap[w.heap.size]? = some (.cells #[.int .i64 p, .int .i64 q] 51 (0, 0))) ∧ Aside0 (Below w.heap.size w wr)) (fun vi _ => (intOf vi + 1).toNat)
  case atStart => exact ⟨L.length, _, rfl, by first | rfl | omega | simp, Nat.le_refl _, HT, ⟨blk_new _ _⟩, ⟨below_alloc (Below.refl _ _) _⟩⟩
  case round =>
    obtain ⟨d, v, rfl, hv, hd, HD, P1, P2⟩ := hrel
    cases d with
    | zero =>
      have hT := HD.out
      rw [newT] at hT
      subst hT
      obtain rfl : v = -1 := by omega
      clear hv
      go_wp2
      rw [Exit.noGoto_ret]
      go_ret
      exact ⟨rfl, P2.out⟩
    | succ d =>
      obtain rfl : v = (d : Int) := by omega
      have hz : decide ((0 : Int) ≤ (d : Int)) = true := decide_eq_true (by omega)
      have hz0 : (0 : Int) ≤ (d : Int) := by omega
      have hz1 : (d : Int) < (L.length : Int) := by omega
      clear hv
      have hdl : d < L.length := by omega
      obtain ⟨gr, e, hbg, h0, h1, h2⟩ := row_it HR.out hdl
      subst e
      have hstep := newT_step L p q d hdl
      rw [HD.out] at hstep
      obtain ⟨x, hx⟩ : ∃ x, L[d] = x := ⟨_, rfl⟩
      rw [hx] at h0 h1 h2 hstep
      obtain ⟨xa, xb, xs⟩ := x
      dsimp only at h0 h1 h2 hstep
      clear hx
      have r0 := cell_bel P2.out h0
      have r1 := cell_bel P2.out h1
      have b0 : wr.cell? ⟨w.heap.size, 0, none⟩ = some (.int .i64 p) := (blk_cell P1.out 0).trans rfl
      have b1 : wr.cell? ⟨w.heap.size, 1, none⟩ = some (.int .i64 q) := (blk_cell P1.out 1).trans rfl
      have g1 : wr.cell? ⟨g, 1, none⟩ = some (.slice (some ⟨gr, 0, none⟩) L.length c) := cell_bel P2.out c1
      have hq := fun w => eq_kv w xa xb p q
      clear h0 h1 h2
      have HS := Aside0.mk hstep
      clear hstep
      by_cases he : xa = p ∧ xb = q
      · have heq : (xa == p && xb == q) = true := by simp [he.1, he.2]
        rw [heq] at hq
        have hTd : T = (d : Int) := by rw [HS.out, if_pos he]
        have HTD := Aside0.mk hTd
        clear hTd heq he
        go_wp2
        go_quiet (fail)
        go_wp2
        rw [Exit.noGoto_ret]
        go_ret
        exact ⟨by rw [HTD.out]; rfl, pw_below_drewN P2.out _⟩
      · have heq : (xa == p && xb == q) = false := by
          rw [Bool.eq_false_iff]; intro h; simp at h; exact he h
        rw [heq] at hq
        have hTd : newT L (p, q) d = T := by rw [HS.out, if_neg he]
        have HTD := Aside0.mk hTd
        clear hTd heq he
        go_wp2
        go_quiet (fail)
        go_wp2
        go_roundw
        case rel => exact ⟨d, _, rfl, rfl, by omega, HTD, ⟨blk_drewN P1.out _⟩, ⟨pw_below_drewN P2.out _⟩⟩
        case measure => simp [intOf]
end Go.Proofs.Ytoeaoanaefipaaa.Bf5
