/- All is paid. -/
import Derived.Test.YtecekplcahllhaaProg
import Derived.Below
import Derived.Deep.Draws
import Derived.Deep.AppendLies
import Derived.Maps.AppendAt
import Derived.OwnWalk
import Derived.Laws.BytesArg
import Derived.Laws.MakeOwn
import Derived.Laws.OwnMore
import Derived.Deep.OwnRows
import Derived.Tactics
import Derived.Lib.ConvBytes
import Derived.Laws.Slices
import Derived.WalkKit
import Derived.KernelRfl
import Derived.RowKit3
import Derived.Deep.LoopGhost
import Derived.Deep.QuietTactic
import Derived.BigQuiet
import Derived.WideLaws
import Derived.Deep.DeepCutAuto
import Derived.Deep.CutBlock
import Derived.Deep.RegionHeld3
import Derived.Laws.Rows
import Derived.Lib.AppendStr
import Derived.ArgAppend
import Derived.Laws.IdiomCopy
import Derived.OrdersHeld
import Derived.Laws.BitsLemmas
import Derived.RowKit
import Derived.RegionTactic
import Derived.ChangeAlike
import Derived.Outline
import Derived.LoopTactic
import Derived.WalkSpells
import Derived.WalkLawsBesides
import Derived.Lib.Hide
import Derived.StillTailTactics
import Derived.Deep.RegionWith
import Derived.Deep.RegionLaw
import Derived.Deep.DeepFit
import Derived.Deep.DeepMust
import Derived.Test.YtecekplcahllhaaWWords
import Derived.Test.YtecekplcahllhaaWLast
import Derived.Test.YtecekplcahllhaaWTab
import Derived.Test.YtecekplcahllhaaWFour
import Derived.Test.YtecekplcahllhaaWQPut
import Derived.Test.YtecekplcahllhaaWApart
import Derived.Test.YtecekplcahllhaaWArr
import Derived.Test.YtecekplcahllhaaWZeros
import Derived.Test.YtecekplcahllhaaWFoot
import Derived.Test.YtecekplcahllhaaWKept
import Derived.Test.YtecekplcahllhaaWShare
import Derived.Test.YtecekplcahllhaaWN
import Derived.Test.YtecekplcahllhaaWFootNe
import Derived.Test.YtecekplcahllhaaWAt
import Derived.Test.YtecekplcahllhaaWEqStruct
import Derived.Test.YtecekplcahllhaaWRepsOne
import Derived.Test.YtecekplcahllhaaWInv
import Derived.Test.YtecekplcahllhaaWInvWords
import Derived.Test.YtecekplcahllhaaWGuard
import Derived.Test.YtecekplcahllhaaWNEv
import Derived.Test.YtecekplcahllhaaWMore
import Derived.Test.YtecekplcahllhaaOsc1
import Derived.OpenShut
namespace Go.Proofs.Ytecekplcahllhaa.Osc4
open Go.RowKit Go.Proofs.YtecekplcahllhaaW.PrintWords Go.Proofs.YtecekplcahllhaaW.PrintLast Go.Proofs.YtecekplcahllhaaW.PrintMore 
attribute [local go_sem] max2_int min2_int max_two min_two max_three min_three max_four min_four
set_option linter.unusedVariables false
set_option linter.unusedSimpArgs false
open Go.Proofs.Ytecekplcahllhaa.Osc
theorem rd_bd16 (l : List Int) (i : Int) (h : ∀ x ∈ l, (Lit.int .u16 x).wf = true) (h0 : 0 ≤ i) (h1 : i < l.length) : 0 ≤ rd l i ∧ rd l i ≤ 65535 := by
  unfold rd
  have hi : i.toNat < l.length := by omega
  rw [List.getD_eq_getElem?_getD, List.getElem?_eq_getElem hi]
  exact bounds_u16 (h _ (List.getElem_mem hi))
theorem step_pays (b : Nat) (s hd t o n : Int) (w : World) (h : clk w b s hd t o) (s0 : 0 ≤ s) (s1 : s ≤ 49) (hd0 : 0 ≤ hd) (t0 : 0 ≤ t) (hd1 : hd ≤ 100000000) (t1 : t ≤ 100000000)
    (n0 : 0 ≤ n) (n1 : n ≤ 65535) (o0 : -1099511627776 ≤ o) (o1 : o ≤ 1099511627776) :
    Calls Try.prog 11 #[.pointer (some ⟨b, 0, none⟩), .int .i64 n] w fun e w' => ∃ t' o', e = .returned (.int .i64 0) ∧ clk w' b s (hd + n) t' o' ∧ 0 ≤ t' ∧ t' ≤ t + 100000 ∧ t' + o' = t + o + n ∧ -1099511627776 ≤ o' ∧ o' ≤ 1099511627776 ∧ (0 < o' → 0 < o) ∧ (o' < 0 → o < 0) ∧ Upd (· = b) w w' := by
  have hm : 0 ≤ most s n ∧ most s n ≤ 32200 := by
    unfold most
    have a := Int.mul_nonneg s0 (show 0 ≤ (n + 50) / 100 by omega)
    have b := Int.mul_le_mul s1 (show (n + 50) / 100 ≤ 655 by omega) (by omega) (by omega)
    omega
  have hP : -n ≤ pay s o n ∧ pay s o n ≤ 32200 ∧ (0 ≤ o → 0 ≤ pay s o n ∧ pay s o n ≤ o) ∧ (o ≤ 0 → o ≤ pay s o n ∧ pay s o n ≤ 0) := by unfold pay; omega
  refine (step_ok b s hd t o n w h s0 s1 hd0 t0 (by omega) (by omega) (by omega) (by omega) (by omega) (by omega) (by omega) (by omega)).mono ?_
  rintro e w' ⟨rfl, h1, h2⟩
  exact ⟨_, _, rfl, h1, by omega, by omega, by omega, by omega, by omega, by omega, by omega, h2⟩
set_option maxRecDepth 100000 in
set_option maxHeartbeats 4000000 in
theorem pays_any (A1 : Option Addr) (c1 : Nat) (l1 : List Int) (a0 owed : Int) (w : World) (hr1 : Kd.C (Kd.int .u16) w A1 l1.length l1)
    (hw1 : ∀ x ∈ l1, (Lit.int .u16 x).wf = true) (z0 : 0 ≤ a0) (z1 : a0 ≤ 255) (hl1 : l1.length ≤ maxLen) :
    Calls Try.prog 4 #[.int .u8 a0, .int .i64 owed, .slice A1 l1.length c1] w fun e w' => e = .returned (.bool true) ∧ Below w.heap.size w w' := by
  have HR1 := Aside0.mk hr1
  have HW1 := Aside0.mk hw1
  have s0 : 0 ≤ a0 % 50 := by omega
  have s1 : a0 % 50 ≤ 49 := by omega
  unfold maxLen at hl1
  clear hr1 hw1
  by_cases ho : -1099511627776 ≤ owed ∧ owed ≤ 1099511627776
  · obtain ⟨g0, g1⟩ := ho
    go_enter Try.func4, Try.ntmps4
    go_wp2_with (first | (go_at_call 7; refine (new_any _ _ s0 s1).mono ?_; rintro e w1 ⟨b, rfl, h1, hb1, hU1⟩) | (go_at_call 8; refine (adjust_ok b _ _ _ _ _ _ h1 g0 g1).mono ?_; rintro e w2 ⟨rfl, h2, hU2⟩))
    have HC0 := Aside0.mk h2
    have HB0 := Aside0.mk (Upd.to_below (Upd.to_below (Below.refl w.heap.size w) hU1 (Nat.le_refl _) (fun _ h => h.elim)) hU2 (Nat.le_refl _) (by rintro _ rfl; exact hb1))
    clear h1 hU1 h2 hU2
    go_loopw [9] (fun v wr => ∃ (i hd t o : Int), v = .int .i64 i ∧ 0 ≤ i ∧ i ≤ 300 ∧ Aside0 (clk wr b (a0 % 50) hd t o) ∧ 0 ≤ hd ∧ hd ≤ i * 65535 ∧ 0 ≤ t ∧ t ≤ i * 100000 ∧ -1099511627776 ≤ o ∧ o ≤ 1099511627776 ∧ Aside0 (t + o - hd = owed ∧ (0 < o → 0 < owed) ∧ (o < 0 → owed < 0)) ∧ Aside0 (Below w.heap.size w wr)) (fun v _ => (300 - intOf v).toNat)
    case atStart => exact ⟨0, 0, 0, owed, rfl, by omega, by omega, HC0, by omega, by omega, by omega, by omega, by omega, by omega, ⟨by omega, by omega, by omega⟩, HB0⟩
    case round =>
      obtain ⟨i, hd, t, o, rfl, i0, i1, HC, d0, d1, t0, t1, o0, o1, HI, HB⟩ := hrel
      clear HC0 HB0
      by_cases c5 : i < (l1.length : Int)
      · have c5b : decide (i < (l1.length : Int)) = true := decide_eq_true c5
        by_cases c7 : i < 300
        · have c7b : decide (i < 300) = true := decide_eq_true c7
          obtain ⟨ad1, e1, hx1⟩ := Kd.at_int HR1.out i i0 c5
          cases e1
          replace hx1 := (HB.out.cell (World.block_lt_of_cell? w _ hx1)).trans hx1
          have hb8 := rd_bd16 l1 i HW1.out i0 c5
          obtain ⟨x, hx⟩ : ∃ x, rd l1 i = x := ⟨_, rfl⟩
          rw [hx] at hx1 hb8
          clear hx
          obtain ⟨hb8, hb9⟩ := hb8
          have hC := HC.out
          go_wp2_with fail
          refine (step_pays b _ _ _ _ x _ hC s0 s1 d0 t0 (by omega) (by omega) hb8 hb9 o0 o1).mono ?_
          rintro e w2 ⟨t', o', rfl, h2, p0, p1, hs, q0, q1, k0, k1, hU2⟩
          have HB2 := Aside0.mk (Upd.to_below HB.out hU2 (Nat.le_refl _) (by rintro _ rfl; exact hb1))
          have HS := Aside0.mk hs
          have HI2 : Aside0 (t' + o' - (hd + x) = owed ∧ (0 < o' → 0 < owed) ∧ (o' < 0 → owed < 0)) := ⟨by have := HI.out; omega⟩
          clear HI k0 k1 HB hU2 hC hs
          have e1 : t' + o' - (hd + x) ≤ owed := by have := HI2.out; omega
          have e2 : owed ≤ t' + o' - (hd + x) := by have := HI2.out; omega
          have e3 := HI2.out.2.1
          have e4 := HI2.out.2.2
          go_wp2_with (first | (go_at_call 9; refine (now_ok b _ _ _ _ _ h2).mono ?_; rintro e w' ⟨rfl, rfl⟩) | (go_at_call 10; refine (hard_ok b _ _ _ _ _ h2).mono ?_; rintro e w' ⟨rfl, rfl⟩) | (go_at_call 13; refine (owed_ok b _ _ _ _ _ h2).mono ?_; rintro e w' ⟨rfl, rfl⟩))
          all_goals
            go_roundw
            case rel => exact ⟨i + 1, hd + x, t', o', rfl, by omega, by omega, ⟨h2⟩, by omega, by omega, by omega, by omega, by omega, by omega, HI2, HB2⟩
            case measure => simp [intOf]; omega
        · have c7b : decide (i < 300) = false := decide_eq_false c7
          go_wp2_with (first | (go_at_call 12; refine (awake_ok _).mono ?_; rintro e w2 ⟨rfl, hB2⟩))
          go_ret
          exact ⟨rfl, HB.out.trans (hB2.mono HB.out.size)⟩
      · have c5b : decide (i < (l1.length : Int)) = false := decide_eq_false c5
        go_wp2_with (first | (go_at_call 12; refine (awake_ok _).mono ?_; rintro e w2 ⟨rfl, hB2⟩))
        go_ret
        exact ⟨rfl, HB.out.trans (hB2.mono HB.out.size)⟩
  · by_cases g : 1099511627776 < owed
    · clear ho
      go_enter Try.func4, Try.ntmps4
      go_wp2_with (first | (go_at_call 7; refine (new_any _ _ s0 s1).mono ?_; rintro e w1 ⟨b, rfl, h1, hb1, hU1⟩) | (go_at_call 8; refine (adjust_no b _ _ _ _ _ _ h1 (.inr g)).mono ?_; rintro e w' ⟨rfl, rfl⟩) | (go_at_call 12; refine (awake_ok _).mono ?_; rintro e w2 ⟨rfl, hB2⟩))
      go_ret
      exact ⟨rfl, (Upd.to_below (Below.refl w.heap.size w) hU1 (Nat.le_refl _) (fun _ h => h.elim)).trans (hB2.mono hU1.size)⟩
    · have g2 : owed < -1099511627776 := by omega
      have g3 : owed ≤ 1099511627776 := by omega
      clear ho g
      go_enter Try.func4, Try.ntmps4
      go_wp2_with (first | (go_at_call 7; refine (new_any _ _ s0 s1).mono ?_; rintro e w1 ⟨b, rfl, h1, hb1, hU1⟩) | (go_at_call 8; refine (adjust_no b _ _ _ _ _ _ h1 (.inl g2)).mono ?_; rintro e w' ⟨rfl, rfl⟩) | (go_at_call 12; refine (awake_ok _).mono ?_; rintro e w2 ⟨rfl, hB2⟩))
      go_ret
      exact ⟨rfl, (Upd.to_below (Below.refl w.heap.size w) hU1 (Nat.le_refl _) (fun _ h => h.elim)).trans (hB2.mono hU1.size)⟩
end Go.Proofs.Ytecekplcahllhaa.Osc4
