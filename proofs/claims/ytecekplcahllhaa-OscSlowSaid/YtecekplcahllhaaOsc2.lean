/- The laws of a clock. -/
import Derived.Test.YtecekplcahllhaaProg
import Derived.Below
import Derived.Deep.Draws
import Derived.Deep.AppendLies
import Derived.Maps.AppendAt
import Derived.OwnWalk
import Derived.Laws.BytesArg
import Derived.Laws.MakeOwn
import Derived.Laws.OwnMore
import Derived.Deep.OwnRows
import Derived.Tactics
import Derived.Lib.ConvBytes
import Derived.Laws.Slices
import Derived.WalkKit
import Derived.KernelRfl
import Derived.RowKit3
import Derived.Deep.LoopGhost
import Derived.Deep.QuietTactic
import Derived.BigQuiet
import Derived.WideLaws
import Derived.Deep.DeepCutAuto
import Derived.Deep.CutBlock
import Derived.Deep.RegionHeld3
import Derived.Laws.Rows
import Derived.Lib.AppendStr
import Derived.ArgAppend
import Derived.Laws.IdiomCopy
import Derived.OrdersHeld
import Derived.Laws.BitsLemmas
import Derived.RowKit
import Derived.RegionTactic
import Derived.ChangeAlike
import Derived.Outline
import Derived.LoopTactic
import Derived.WalkSpells
import Derived.WalkLawsBesides
import Derived.Lib.Hide
import Derived.StillTailTactics
import Derived.Deep.RegionWith
import Derived.Deep.RegionLaw
import Derived.Deep.DeepFit
import Derived.Deep.DeepMust
import Derived.Test.YtecekplcahllhaaWWords
import Derived.Test.YtecekplcahllhaaWLast
import Derived.Test.YtecekplcahllhaaWTab
import Derived.Test.YtecekplcahllhaaWFour
import Derived.Test.YtecekplcahllhaaWQPut
import Derived.Test.YtecekplcahllhaaWApart
import Derived.Test.YtecekplcahllhaaWArr
import Derived.Test.YtecekplcahllhaaWZeros
import Derived.Test.YtecekplcahllhaaWFoot
import Derived.Test.YtecekplcahllhaaWKept
import Derived.Test.YtecekplcahllhaaWShare
import Derived.Test.YtecekplcahllhaaWN
import Derived.Test.YtecekplcahllhaaWFootNe
import Derived.Test.YtecekplcahllhaaWAt
import Derived.Test.YtecekplcahllhaaWEqStruct
import Derived.Test.YtecekplcahllhaaWRepsOne
import Derived.Test.YtecekplcahllhaaWInv
import Derived.Test.YtecekplcahllhaaWInvWords
import Derived.Test.YtecekplcahllhaaWGuard
import Derived.Test.YtecekplcahllhaaWNEv
import Derived.Test.YtecekplcahllhaaWMore
import Derived.Test.YtecekplcahllhaaOsc1
import Derived.OpenShut
namespace Go.Proofs.Ytecekplcahllhaa.Osc2
open Go.RowKit Go.Proofs.YtecekplcahllhaaW.PrintWords Go.Proofs.YtecekplcahllhaaW.PrintLast Go.Proofs.YtecekplcahllhaaW.PrintMore 
attribute [local go_sem] max2_int min2_int max_two min_two max_three min_three max_four min_four
set_option linter.unusedVariables false
set_option linter.unusedSimpArgs false
open Go.Proofs.Ytecekplcahllhaa.Osc
theorem rd_bd8 (l : List Int) (i : Int) (h : ∀ x ∈ l, (Lit.int .i8 x).wf = true) (h0 : 0 ≤ i) (h1 : i < l.length) : -128 ≤ rd l i ∧ rd l i ≤ 127 := by
  unfold rd
  have hi : i.toNat < l.length := by omega
  rw [List.getD_eq_getElem?_getD, List.getElem?_eq_getElem hi]
  exact bounds_i8 (h _ (List.getElem_mem hi))
theorem step_slow (b : Nat) (s hd t o n : Int) (w : World) (h : clk w b s hd t o) (s0 : 0 ≤ s) (s1 : s ≤ 49) (hd0 : 0 ≤ hd) (t0 : 0 ≤ t) (hd1 : hd ≤ 1000000) (t1 : t ≤ 1000000)
    (n0 : 51 ≤ n) (n1 : n ≤ 149) (o0 : -10000000000000 ≤ o) (o1 : o ≤ 10000000000000) :
    Calls Try.prog 11 #[.pointer (some ⟨b, 0, none⟩), .int .i64 n] w fun e w' => ∃ P, e = .returned (.int .i64 0) ∧ clk w' b s (hd + n) (t + n + P) (o - P) ∧ -s ≤ P ∧ P ≤ s ∧ -10000000000000 ≤ o - P ∧ o - P ≤ 10000000000000 ∧ Upd (· = b) w w' := by
  have hm : most s n = s := by unfold most; rw [show (n + 50) / 100 = 1 by omega]; omega
  have hP : -s ≤ pay s o n ∧ pay s o n ≤ s ∧ -10000000000000 ≤ o - pay s o n ∧ o - pay s o n ≤ 10000000000000 := by unfold pay; rw [hm]; omega
  refine (step_ok b s hd t o n w h s0 s1 hd0 t0 (by omega) (by omega) (by omega) (by omega) o0 o1 (by omega) (by omega)).mono ?_
  rintro e w' ⟨rfl, h1, h2⟩
  exact ⟨_, rfl, h1, by omega, by omega, by omega, by omega, h2⟩
set_option maxRecDepth 100000 in
set_option maxHeartbeats 4000000 in
theorem slow_any (A1 A2 : Option Addr) (c1 c2 : Nat) (l1 l2 : List Int) (a0 : Int) (w : World) (hr1 : Kd.C (Kd.int .i64) w A1 l1.length l1) (hr2 : Kd.C (Kd.int .i8) w A2 l2.length l2)
    (hw1 : ∀ x ∈ l1, (Lit.int .i64 x).wf = true) (hw2 : ∀ x ∈ l2, (Lit.int .i8 x).wf = true) (z0 : 0 ≤ a0) (z1 : a0 ≤ 255) (hl1 : l1.length ≤ maxLen) (hl2 : l2.length ≤ maxLen) :
    Calls Try.prog 3 #[.int .u8 a0, .slice A1 l1.length c1, .slice A2 l2.length c2] w fun e w' => e = .returned (.bool true) ∧ Below w.heap.size w w' := by
  have HR1 := Aside0.mk hr1
  have HR2 := Aside0.mk hr2
  have HW1 := Aside0.mk hw1
  have HW2 := Aside0.mk hw2
  have s0 : 0 ≤ a0 % 50 := by omega
  have s1 : a0 % 50 ≤ 49 := by omega
  unfold maxLen at hl1 hl2
  clear hr1 hr2 hw1 hw2
  go_enter Try.func3, Try.ntmps3
  go_wp2_with (first | (go_at_call 7; refine (new_any _ _ s0 s1).mono ?_; rintro e w1 ⟨b, rfl, h1, hb1, hU1⟩))
  have HC0 := Aside0.mk h1
  have HB0 := Aside0.mk (Upd.to_below (Below.refl w.heap.size w) hU1 (Nat.le_refl _) (fun _ h => h.elim))
  clear h1 hU1
  go_loopw [10] (fun v wr => ∃ (i hd t o : Int), v = .int .i64 i ∧ 0 ≤ i ∧ i ≤ 300 ∧ Aside0 (clk wr b (a0 % 50) hd t o) ∧ 0 ≤ hd ∧ hd ≤ i * 149 ∧ 0 ≤ t ∧ t ≤ i * 198 ∧ -10000000000000 ≤ o ∧ o ≤ 10000000000000 ∧ Aside0 (Below w.heap.size w wr)) (fun v _ => (300 - intOf v).toNat)
  case atStart => exact ⟨0, 0, 0, 0, rfl, by omega, by omega, HC0, by omega, by omega, by omega, by omega, by omega, by omega, HB0⟩
  case round =>
    obtain ⟨i, hd, t, o, rfl, i0, i1, HC, d0, d1, t0, t1, o0, o1, HB⟩ := hrel
    clear HC0 HB0
    by_cases c5 : i < (l1.length : Int)
    · have c5b : decide (i < (l1.length : Int)) = true := decide_eq_true c5
      by_cases c6 : i < (l2.length : Int)
      · have c6b : decide (i < (l2.length : Int)) = true := decide_eq_true c6
        by_cases c7 : i < 300
        · have c7b : decide (i < 300) = true := decide_eq_true c7
          obtain ⟨ad1, e1, hx1⟩ := Kd.at_int HR1.out i i0 c5
          cases e1
          replace hx1 := (HB.out.cell (World.block_lt_of_cell? w _ hx1)).trans hx1
          obtain ⟨ad2, e2, hx2⟩ := Kd.at_int HR2.out i i0 c6
          cases e2
          have hn2 : ¬ (ad2.add i.toNat).block = b := by have := World.block_lt_of_cell? w _ hx2; omega
          replace hx2 := (HB.out.cell (World.block_lt_of_cell? w _ hx2)).trans hx2
          have hC := HC.out
          have hb8 := rd_bd8 l2 i HW2.out i0 c6
          obtain ⟨x, hx⟩ : ∃ x, rd l2 i = x := ⟨_, rfl⟩
          rw [hx] at hx2 hb8
          clear hx
          obtain ⟨hb8, hb9⟩ := hb8
          obtain ⟨m, hm⟩ : ∃ m, (if x < -49 then (-49 : Int) else x) = m := ⟨_, rfl⟩
          have hm0 : -49 ≤ m ∧ m ≤ 127 := by rw [← hm]; split <;> omega
          obtain ⟨hm0, hm1⟩ := hm0
          obtain ⟨d, hd2⟩ : ∃ d, (if 49 < m then (49 : Int) else m) = d := ⟨_, rfl⟩
          have hd3 : -49 ≤ d ∧ d ≤ 49 := by rw [← hd2]; split <;> omega
          obtain ⟨hd3, hd4⟩ := hd3
          go_wp2_with (first | (go_at_call 8; refine (adjust_any b _ _ _ _ _ _ hC o0 o1).mono ?_; rintro e w2 ⟨r2, o2, rfl, h2, q0, q1, hU2⟩; have hx3 := hU2.cellF hx2 hn2; clear hx2; have HB2 := Aside0.mk (Upd.to_below HB.out hU2 (Nat.le_refl _) (by rintro _ rfl; exact hb1)); clear HB hU2) | (go_at_call 9; refine (now_ok b _ _ _ _ _ h2).mono ?_; rintro e w' ⟨rfl, rfl⟩) | (go_at_call 10; refine (hard_ok b _ _ _ _ _ h2).mono ?_; rintro e w' ⟨rfl, rfl⟩) | (go_at_call 11; refine (step_slow b _ _ _ _ (100 + d) _ h2 s0 s1 d0 t0 (by omega) (by omega) (by omega) (by omega) q0 q1).mono ?_; clear h2; rintro e w3 ⟨P, rfl, h2, p0, p1, q0, q1, hU3⟩; have HB3 := Aside0.mk (Upd.to_below HB2.out hU3 (Nat.le_refl _) (by rintro _ rfl; exact hb1)); clear HB2 hU3))
          go_roundw
          case rel => exact ⟨i + 1, hd + (100 + d), t + (100 + d) + P, o2 - P, rfl, by omega, by omega, ⟨h2⟩, by omega, by omega, by omega, by omega, by omega, by omega, HB3⟩
          case measure => simp [intOf]; omega
        · have c7b : decide (i < 300) = false := decide_eq_false c7
          go_wp2_with (first | (go_at_call 12; refine (awake_ok _).mono ?_; rintro e w2 ⟨rfl, hB2⟩))
          go_ret
          exact ⟨rfl, HB.out.trans (hB2.mono HB.out.size)⟩
      · have c6b : decide (i < (l2.length : Int)) = false := decide_eq_false c6
        go_wp2_with (first | (go_at_call 12; refine (awake_ok _).mono ?_; rintro e w2 ⟨rfl, hB2⟩))
        go_ret
        exact ⟨rfl, HB.out.trans (hB2.mono HB.out.size)⟩
    · have c5b : decide (i < (l1.length : Int)) = false := decide_eq_false c5
      go_wp2_with (first | (go_at_call 12; refine (awake_ok _).mono ?_; rintro e w2 ⟨rfl, hB2⟩))
      go_ret
      exact ⟨rfl, HB.out.trans (hB2.mono HB.out.size)⟩
end Go.Proofs.Ytecekplcahllhaa.Osc2
