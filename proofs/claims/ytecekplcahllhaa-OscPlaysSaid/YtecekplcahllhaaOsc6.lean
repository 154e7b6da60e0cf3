/- Any acts on a clock. -/
import Derived.Test.YtecekplcahllhaaProg
import Derived.Below
import Derived.Deep.Draws
import Derived.Deep.AppendLies
import Derived.Maps.AppendAt
import Derived.OwnWalk
import Derived.Laws.BytesArg
import Derived.Laws.MakeOwn
import Derived.Laws.OwnMore
import Derived.Deep.OwnRows
import Derived.Tactics
import Derived.Lib.ConvBytes
import Derived.Laws.Slices
import Derived.WalkKit
import Derived.KernelRfl
import Derived.RowKit3
import Derived.Deep.LoopGhost
import Derived.Deep.QuietTactic
import Derived.BigQuiet
import Derived.WideLaws
import Derived.Deep.DeepCutAuto
import Derived.Deep.CutBlock
import Derived.Deep.RegionHeld3
import Derived.Laws.Rows
import Derived.Lib.AppendStr
import Derived.ArgAppend
import Derived.Laws.IdiomCopy
import Derived.OrdersHeld
import Derived.Laws.BitsLemmas
import Derived.RowKit
import Derived.RegionTactic
import Derived.ChangeAlike
import Derived.Outline
import Derived.LoopTactic
import Derived.WalkSpells
import Derived.WalkLawsBesides
import Derived.Lib.Hide
import Derived.StillTailTactics
import Derived.Deep.RegionWith
import Derived.Deep.RegionLaw
import Derived.Deep.DeepFit
import Derived.Deep.DeepMust
import Derived.Test.YtecekplcahllhaaWWords
import Derived.Test.YtecekplcahllhaaWLast
import Derived.Test.YtecekplcahllhaaWTab
import Derived.Test.YtecekplcahllhaaWFour
import Derived.Test.YtecekplcahllhaaWQPut
import Derived.Test.YtecekplcahllhaaWApart
import Derived.Test.YtecekplcahllhaaWArr
import Derived.Test.YtecekplcahllhaaWZeros
import Derived.Test.YtecekplcahllhaaWFoot
import Derived.Test.YtecekplcahllhaaWKept
import Derived.Test.YtecekplcahllhaaWShare
import Derived.Test.YtecekplcahllhaaWN
import Derived.Test.YtecekplcahllhaaWFootNe
import Derived.Test.YtecekplcahllhaaWAt
import Derived.Test.YtecekplcahllhaaWEqStruct
import Derived.Test.YtecekplcahllhaaWRepsOne
import Derived.Test.YtecekplcahllhaaWInv
import Derived.Test.YtecekplcahllhaaWInvWords
import Derived.Test.YtecekplcahllhaaWGuard
import Derived.Test.YtecekplcahllhaaWNEv
import Derived.Test.YtecekplcahllhaaWMore
import Derived.Test.YtecekplcahllhaaOsc5
namespace Go.Proofs.Ytecekplcahllhaa.Osc6
open Go.RowKit Go.Proofs.YtecekplcahllhaaW.PrintWords Go.Proofs.YtecekplcahllhaaW.PrintLast Go.Proofs.YtecekplcahllhaaW.PrintMore 
attribute [local go_sem] max2_int min2_int max_two min_two max_three min_three max_four min_four
set_option linter.unusedVariables false
set_option linter.unusedSimpArgs false
open Go.Proofs.Ytecekplcahllhaa.Osc Go.Proofs.Ytecekplcahllhaa.POscPlays Go.Proofs.Ytecekplcahllhaa.Osc5
theorem rd_bd64 (l : List Int) (i : Int) (h : ∀ x ∈ l, (Lit.int .i64 x).wf = true) (h0 : 0 ≤ i) (h1 : i < l.length) : -9223372036854775808 ≤ rd l i ∧ rd l i ≤ 9223372036854775807 := by
  unfold rd
  have hi : i.toNat < l.length := by omega
  rw [List.getD_eq_getElem?_getD, List.getElem?_eq_getElem hi]
  exact bounds_i64 (h _ (List.getElem_mem hi))
theorem rd_bdu8 (l : List Int) (i : Int) (h : ∀ x ∈ l, (Lit.int .u8 x).wf = true) (h0 : 0 ≤ i) (h1 : i < l.length) : 0 ≤ rd l i ∧ rd l i ≤ 255 := by
  unfold rd
  have hi : i.toNat < l.length := by omega
  rw [List.getD_eq_getElem?_getD, List.getElem?_eq_getElem hi]
  exact bounds_u8 (h _ (List.getElem_mem hi))
set_option maxRecDepth 100000 in
set_option maxHeartbeats 16000000 in
theorem plays_any (A1 A2 : Option Addr) (c1 c2 : Nat) (l1 l2 : List Int) (s : Int) (w : World) (hr1 : Kd.C (Kd.int .u8) w A1 l1.length l1) (hr2 : Kd.C (Kd.int .i64) w A2 l2.length l2)
    (hw1 : ∀ x ∈ l1, (Lit.int .u8 x).wf = true) (hw2 : ∀ x ∈ l2, (Lit.int .i64 x).wf = true) (hl1 : l1.length ≤ maxLen) (hl2 : l2.length ≤ maxLen) :
    Calls Try.prog 6 #[.int .i64 s, .slice A1 l1.length c1, .slice A2 l2.length c2] w fun e w' => e = .returned (.bool true) ∧ Below w.heap.size w w' := by
  have HR1 := Aside0.mk hr1
  have HR2 := Aside0.mk hr2
  have HW1 := Aside0.mk hw1
  have HW2 := Aside0.mk hw2
  unfold maxLen at hl1 hl2
  clear hr1 hr2 hw1 hw2
  by_cases hs : 0 ≤ s ∧ s ≤ 49
  · obtain ⟨s0, s1⟩ := hs
    go_enter Try.func6, Try.ntmps6
    go_wp2_with (first | (go_at_call 7; refine (new_any _ _ s0 s1).mono ?_; rintro e w1 ⟨b, rfl, h1, hb1, hU1⟩) | (go_at_call 15; refine (rnew_ok _ _ s0 s1).mono ?_; rintro e w2 ⟨g, rfl, h2, hg1, hU2⟩))
    have hbg : ¬ b = g := by have := blk_lt h1; omega
    have hgb : ¬ g = b := fun e => hbg e.symm
    have HC0 := Aside0.mk (hU2.far h1 (fun h => h))
    have HR0 := Aside0.mk h2
    have HB0 := Aside0.mk (Upd.to_below (Upd.to_below (Below.refl w.heap.size w) hU1 (Nat.le_refl _) (fun _ h => h.elim)) hU2 (Nat.le_refl _) (fun _ h => h.elim))
    replace hg1 : w.heap.size ≤ g := Nat.le_trans hU1.size hg1
    clear h1 hU1 h2 hU2
    go_loopw [11] (fun v wr => ∃ (i hd t o : Int), v = .int .i64 i ∧ 0 ≤ i ∧ i ≤ 200 ∧ Aside0 (clk wr b s hd t o) ∧ Aside0 (wr.heap[g]? = some (.cells #[.int .i64 s, .int .i64 hd, .int .i64 t, .int .i64 o] 45 (0, 0))) ∧ Aside0 (St s hd t o) ∧ Aside0 (Below w.heap.size w wr)) (fun v _ => (200 - intOf v).toNat)
    case atStart => exact ⟨0, 0, 0, 0, rfl, by omega, by omega, HC0, HR0, ⟨by unfold St; omega⟩, HB0⟩
    case round =>
      obtain ⟨i, hd, t, o, rfl, i0, i1, HC, HR, HS, HB⟩ := hrel
      clear HC0 HB0 HR0
      by_cases c5 : i < (l1.length : Int)
      · have c5b : decide (i < (l1.length : Int)) = true := decide_eq_true c5
        by_cases c6 : i < (l2.length : Int)
        · have c6b : decide (i < (l2.length : Int)) = true := decide_eq_true c6
          by_cases c7 : i < 200
          · have c7b : decide (i < 200) = true := decide_eq_true c7
            obtain ⟨ad1, e1, hx1⟩ := Kd.at_int HR1.out i i0 c5
            cases e1
            replace hx1 := (HB.out.cell (World.block_lt_of_cell? w _ hx1)).trans hx1
            obtain ⟨ad2, e2, hx2⟩ := Kd.at_int HR2.out i i0 c6
            cases e2
            have hn2 : ¬ (ad2.add i.toNat).block = b := by have := World.block_lt_of_cell? w _ hx2; omega
            replace hx2 := (HB.out.cell (World.block_lt_of_cell? w _ hx2)).trans hx2
            have hq := rd_bdu8 l1 i HW1.out i0 c5
            have hy := rd_bd64 l2 i HW2.out i0 c6
            obtain ⟨x, hx⟩ : ∃ x, rd l2 i = x := ⟨_, rfl⟩
            rw [hx] at hx2 hy
            clear hx
            obtain ⟨y0, y1⟩ := hy
            obtain ⟨q, hqq⟩ : ∃ q, rd l1 i = q := ⟨_, rfl⟩
            rw [hqq] at hx1 hq
            clear hqq
            obtain ⟨q0, q1⟩ := hq
            have hC := HC.out
            clear HC
            have h4 : q % 4 = 0 ∨ q % 4 = 1 ∨ q % 4 = 2 ∨ q % 4 = 3 := by omega
            rcases h4 with k4 | k4 | k4 | k4
            · go_wp2_with fail
              refine (step_all b _ _ _ _ x _ hC HS.out).mono ?_
              rintro e w2 ⟨r, hd', t', o', rfl, HF, h2, hU2⟩
              have HB2 := Aside0.mk (Upd.to_below HB.out hU2 (Nat.le_refl _) (by rintro _ rfl; exact hb1))
              have hR2 := hU2.far HR.out hgb
              have hx3 := hU2.cellF hx2 hn2
              have HS2 := Aside0.mk (step_St _ _ _ _ _ _ _ _ _ HS.out HF.out)
              clear HB hx2 HR
              go_wp2_with fail
              refine (carillonref18_Clock_Step.calls 1 g _ _ _ _ x _ _ _ _ _ w _ ⟨hR2, hg1⟩ HB2.out (rstep_eq _ _ _ _ _ _ _ _ _ HS.out y0 y1 HF.out)).mono ?_
              rintro e w3 ⟨rfl, h3, hB3, hK3⟩
              have hU3 := upd_of_keep HB2.out hB3 hK3
              have hC3 := hU3.far h2 hbg
              have HB3 := Aside0.mk (Upd.to_below HB2.out hU3 (Nat.le_refl _) (by rintro _ rfl; exact hg1))
              have h3r := h3.1
              clear hK3 hB3 hU3 hU2 h2 HF hR2 hx3 HB2 hC HS
              have g1 : w3.cell? ⟨g, 1, none⟩ = some (.int .i64 hd') := (blk_cell h3r 1).trans rfl
              have g2 : w3.cell? ⟨g, 2, none⟩ = some (.int .i64 t') := (blk_cell h3r 2).trans rfl
              have g3 : w3.cell? ⟨g, 3, none⟩ = some (.int .i64 o') := (blk_cell h3r 3).trans rfl
              have HR3 := Aside0.mk h3r
              clear h3r h3
              go_wp2
              go_quiet ((first | (go_at_call 9; exact Calls.quiet_of_same (now_ok b _ _ _ _ _ (blk_drewN hC3 _))) | (go_at_call 10; exact Calls.quiet_of_same (hard_ok b _ _ _ _ _ (blk_drewN hC3 _))) | (go_at_call 13; exact Calls.quiet_of_same (owed_ok b _ _ _ _ _ (blk_drewN hC3 _)))))
              go_wp2
              go_roundw
              case rel => exact ⟨i + 1, hd', t', o', rfl, by omega, by omega, ⟨blk_drewN hC3 _⟩, ⟨blk_drewN HR3.out _⟩, HS2, ⟨HB3.out.trans (Below.refl _ _ |> fun h => ⟨h.os, h.tape, h.output, h.size, h.block⟩)⟩⟩
              case measure => simp [intOf]; omega
            · go_wp2_with fail
              refine (step_all b _ _ _ _ x _ hC HS.out).mono ?_
              rintro e w2 ⟨r, hd', t', o', rfl, HF, h2, hU2⟩
              have HB2 := Aside0.mk (Upd.to_below HB.out hU2 (Nat.le_refl _) (by rintro _ rfl; exact hb1))
              have hR2 := hU2.far HR.out hgb
              have hx3 := hU2.cellF hx2 hn2
              have HS2 := Aside0.mk (step_St _ _ _ _ _ _ _ _ _ HS.out HF.out)
              clear HB hx2 HR
              go_wp2_with fail
              refine (carillonref18_Clock_Step.calls 1 g _ _ _ _ x _ _ _ _ _ w _ ⟨hR2, hg1⟩ HB2.out (rstep_eq _ _ _ _ _ _ _ _ _ HS.out y0 y1 HF.out)).mono ?_
              rintro e w3 ⟨rfl, h3, hB3, hK3⟩
              have hU3 := upd_of_keep HB2.out hB3 hK3
              have hC3 := hU3.far h2 hbg
              have HB3 := Aside0.mk (Upd.to_below HB2.out hU3 (Nat.le_refl _) (by rintro _ rfl; exact hg1))
              have h3r := h3.1
              clear hK3 hB3 hU3 hU2 h2 HF hR2 hx3 HB2 hC HS
              have g1 : w3.cell? ⟨g, 1, none⟩ = some (.int .i64 hd') := (blk_cell h3r 1).trans rfl
              have g2 : w3.cell? ⟨g, 2, none⟩ = some (.int .i64 t') := (blk_cell h3r 2).trans rfl
              have g3 : w3.cell? ⟨g, 3, none⟩ = some (.int .i64 o') := (blk_cell h3r 3).trans rfl
              have HR3 := Aside0.mk h3r
              clear h3r h3
              go_wp2
              go_quiet ((first | (go_at_call 9; exact Calls.quiet_of_same (now_ok b _ _ _ _ _ (blk_drewN hC3 _))) | (go_at_call 10; exact Calls.quiet_of_same (hard_ok b _ _ _ _ _ (blk_drewN hC3 _))) | (go_at_call 13; exact Calls.quiet_of_same (owed_ok b _ _ _ _ _ (blk_drewN hC3 _)))))
              go_wp2
              go_roundw
              case rel => exact ⟨i + 1, hd', t', o', rfl, by omega, by omega, ⟨blk_drewN hC3 _⟩, ⟨blk_drewN HR3.out _⟩, HS2, ⟨HB3.out.trans (Below.refl _ _ |> fun h => ⟨h.os, h.tape, h.output, h.size, h.block⟩)⟩⟩
              case measure => simp [intOf]; omega
            · go_wp2_with fail
              refine (adjust_all b _ _ _ _ x _ hC).mono ?_
              rintro e w2 ⟨r, hd', t', o', rfl, HF, h2, hU2⟩
              have HB2 := Aside0.mk (Upd.to_below HB.out hU2 (Nat.le_refl _) (by rintro _ rfl; exact hb1))
              have hR2 := hU2.far HR.out hgb
              have hx3 := hU2.cellF hx2 hn2
              have HS2 := Aside0.mk (adj_St _ _ _ _ _ _ _ _ _ HS.out HF.out)
              clear HB hx2 HR
              go_wp2_with fail
              refine (carillonref18_Clock_Adjust.calls g _ _ _ _ x _ _ _ _ _ w _ ⟨hR2, hg1⟩ HB2.out (radj_eq _ _ _ _ _ _ _ _ _ HF.out)).mono ?_
              rintro e w3 ⟨rfl, h3, hB3, hK3⟩
              have hU3 := upd_of_keep HB2.out hB3 hK3
              have hC3 := hU3.far h2 hbg
              have HB3 := Aside0.mk (Upd.to_below HB2.out hU3 (Nat.le_refl _) (by rintro _ rfl; exact hg1))
              have h3r := h3.1
              clear hK3 hB3 hU3 hU2 h2 HF hR2 hx3 HB2 hC HS
              have g1 : w3.cell? ⟨g, 1, none⟩ = some (.int .i64 hd') := (blk_cell h3r 1).trans rfl
              have g2 : w3.cell? ⟨g, 2, none⟩ = some (.int .i64 t') := (blk_cell h3r 2).trans rfl
              have g3 : w3.cell? ⟨g, 3, none⟩ = some (.int .i64 o') := (blk_cell h3r 3).trans rfl
              have HR3 := Aside0.mk h3r
              clear h3r h3
              go_wp2
              go_quiet ((first | (go_at_call 9; exact Calls.quiet_of_same (now_ok b _ _ _ _ _ (blk_drewN hC3 _))) | (go_at_call 10; exact Calls.quiet_of_same (hard_ok b _ _ _ _ _ (blk_drewN hC3 _))) | (go_at_call 13; exact Calls.quiet_of_same (owed_ok b _ _ _ _ _ (blk_drewN hC3 _)))))
              go_wp2
              go_roundw
              case rel => exact ⟨i + 1, hd', t', o', rfl, by omega, by omega, ⟨blk_drewN hC3 _⟩, ⟨blk_drewN HR3.out _⟩, HS2, ⟨HB3.out.trans (Below.refl _ _ |> fun h => ⟨h.os, h.tape, h.output, h.size, h.block⟩)⟩⟩
              case measure => simp [intOf]; omega
            · go_wp2_with fail
              refine (set_all b _ _ _ _ x _ hC).mono ?_
              rintro e w2 ⟨r, hd', t', o', rfl, HF, h2, hU2⟩
              have HB2 := Aside0.mk (Upd.to_below HB.out hU2 (Nat.le_refl _) (by rintro _ rfl; exact hb1))
              have hR2 := hU2.far HR.out hgb
              have hx3 := hU2.cellF hx2 hn2
              have HS2 := Aside0.mk (set_St _ _ _ _ _ _ _ _ _ HS.out HF.out)
              clear HB hx2 HR
              go_wp2_with fail
              refine (carillonref18_Clock_Set.calls g _ _ _ _ x _ _ _ _ _ w _ ⟨hR2, hg1⟩ HB2.out (rset_eq _ _ _ _ _ _ _ _ _ HF.out)).mono ?_
              rintro e w3 ⟨rfl, h3, hB3, hK3⟩
              have hU3 := upd_of_keep HB2.out hB3 hK3
              have hC3 := hU3.far h2 hbg
              have HB3 := Aside0.mk (Upd.to_below HB2.out hU3 (Nat.le_refl _) (by rintro _ rfl; exact hg1))
              have h3r := h3.1
              clear hK3 hB3 hU3 hU2 h2 HF hR2 hx3 HB2 hC HS
              have g1 : w3.cell? ⟨g, 1, none⟩ = some (.int .i64 hd') := (blk_cell h3r 1).trans rfl
              have g2 : w3.cell? ⟨g, 2, none⟩ = some (.int .i64 t') := (blk_cell h3r 2).trans rfl
              have g3 : w3.cell? ⟨g, 3, none⟩ = some (.int .i64 o') := (blk_cell h3r 3).trans rfl
              have HR3 := Aside0.mk h3r
              clear h3r h3
              go_wp2
              go_quiet ((first | (go_at_call 9; exact Calls.quiet_of_same (now_ok b _ _ _ _ _ (blk_drewN hC3 _))) | (go_at_call 10; exact Calls.quiet_of_same (hard_ok b _ _ _ _ _ (blk_drewN hC3 _))) | (go_at_call 13; exact Calls.quiet_of_same (owed_ok b _ _ _ _ _ (blk_drewN hC3 _)))))
              go_wp2
              go_roundw
              case rel => exact ⟨i + 1, hd', t', o', rfl, by omega, by omega, ⟨blk_drewN hC3 _⟩, ⟨blk_drewN HR3.out _⟩, HS2, ⟨HB3.out.trans (Below.refl _ _ |> fun h => ⟨h.os, h.tape, h.output, h.size, h.block⟩)⟩⟩
              case measure => simp [intOf]; omega
          · have c7b : decide (i < 200) = false := decide_eq_false c7
            go_wp2_with (first | (go_at_call 12; refine (awake_ok _).mono ?_; rintro e w2 ⟨rfl, hB2⟩))
            go_ret
            exact ⟨rfl, HB.out.trans (hB2.mono HB.out.size)⟩
        · have c6b : decide (i < (l2.length : Int)) = false := decide_eq_false c6
          go_wp2_with (first | (go_at_call 12; refine (awake_ok _).mono ?_; rintro e w2 ⟨rfl, hB2⟩))
          go_ret
          exact ⟨rfl, HB.out.trans (hB2.mono HB.out.size)⟩
      · have c5b : decide (i < (l1.length : Int)) = false := decide_eq_false c5
        go_wp2_with (first | (go_at_call 12; refine (awake_ok _).mono ?_; rintro e w2 ⟨rfl, hB2⟩))
        go_ret
        exact ⟨rfl, HB.out.trans (hB2.mono HB.out.size)⟩
  · go_enter Try.func6, Try.ntmps6
    go_wp2_with (first | (go_at_call 7; refine (new_no _ _ (by omega)).mono ?_; rintro e w' ⟨rfl, rfl⟩) | (go_at_call 15; refine (rnew_no _ _ (by omega)).mono ?_; rintro e w' ⟨rfl, rfl⟩) | (go_at_call 12; refine (awake_ok _).mono ?_; rintro e w2 ⟨rfl, hB2⟩))
    go_ret
    exact ⟨rfl, hB2⟩
end Go.Proofs.Ytecekplcahllhaa.Osc6
