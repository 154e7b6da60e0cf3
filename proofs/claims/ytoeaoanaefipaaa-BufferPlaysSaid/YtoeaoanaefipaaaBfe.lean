/- First come, first told. -/
import Derived.Test.YtoeaoanaefipaaaProg
import Derived.Below
import Derived.Deep.Draws
import Derived.Deep.AppendLies
import Derived.Maps.AppendAt
import Derived.OwnWalk
import Derived.Laws.BytesArg
import Derived.Laws.MakeOwn
import Derived.Laws.OwnMore
import Derived.Deep.OwnRows
import Derived.Tactics
import Derived.Lib.ConvBytes
import Derived.Laws.Slices
import Derived.WalkKit
import Derived.KernelRfl
import Derived.RowKit3
import Derived.Deep.LoopGhost
import Derived.Deep.QuietTactic
import Derived.BigQuiet
import Derived.WideLaws
import Derived.Deep.DeepCutAuto
import Derived.Deep.CutBlock
import Derived.Deep.RegionHeld3
import Derived.Laws.Rows
import Derived.Lib.AppendStr
import Derived.ArgAppend
import Derived.Laws.IdiomCopy
import Derived.OrdersHeld
import Derived.Laws.BitsLemmas
import Derived.RowKit
import Derived.RegionTactic
import Derived.ChangeAlike
import Derived.Outline
import Derived.LoopTactic
import Derived.WalkSpells
import Derived.WalkLawsBesides
import Derived.Lib.Hide
import Derived.StillTailTactics
import Derived.Deep.RegionWith
import Derived.Deep.RegionLaw
import Derived.Deep.DeepFit
import Derived.Deep.DeepMust
import Derived.Test.YtoeaoanaefipaaaWWords
import Derived.Test.YtoeaoanaefipaaaWLast
import Derived.Test.YtoeaoanaefipaaaWTab
import Derived.Test.YtoeaoanaefipaaaWFour
import Derived.Test.YtoeaoanaefipaaaWQPut
import Derived.Test.YtoeaoanaefipaaaWApart
import Derived.Test.YtoeaoanaefipaaaWArr
import Derived.Test.YtoeaoanaefipaaaWZeros
import Derived.Test.YtoeaoanaefipaaaWFoot
import Derived.Test.YtoeaoanaefipaaaWKept
import Derived.Test.YtoeaoanaefipaaaWShare
import Derived.Test.YtoeaoanaefipaaaWN
import Derived.Test.YtoeaoanaefipaaaWFootNe
import Derived.Test.YtoeaoanaefipaaaWAt
import Derived.Test.YtoeaoanaefipaaaWEqStruct
import Derived.Test.YtoeaoanaefipaaaWRepsOne
import Derived.Test.YtoeaoanaefipaaaWInv
import Derived.Test.YtoeaoanaefipaaaWInvWords
import Derived.Test.YtoeaoanaefipaaaWGuard
import Derived.Test.YtoeaoanaefipaaaWNEv
import Derived.Test.YtoeaoanaefipaaaWMore
import Derived.Test.YtoeaoanaefipaaaBfd
import Derived.Test.YtoeaoanaefipaaaRd
namespace Go.Proofs.Ytoeaoanaefipaaa.Bfe
open Go.RowKit Go.Proofs.YtoeaoanaefipaaaW.PrintWords Go.Proofs.YtoeaoanaefipaaaW.PrintLast Go.Proofs.YtoeaoanaefipaaaW.PrintMore 
attribute [local go_sem] max2_int min2_int max_two min_two max_three min_three max_four min_four
set_option linter.unusedVariables false
set_option linter.unusedSimpArgs false
open Go.Maps Go.ChangeMaps Go.Proofs.Ytoeaoanaefipaaa.Bf1 Go.Proofs.Ytoeaoanaefipaaa.Bf2 Go.Proofs.Ytoeaoanaefipaaa.Bf3 Go.Proofs.Ytoeaoanaefipaaa.BfP Go.Proofs.Ytoeaoanaefipaaa.Bf4 Go.Proofs.Ytoeaoanaefipaaa.Bf5 Go.Proofs.Ytoeaoanaefipaaa.Bf6 Go.Proofs.Ytoeaoanaefipaaa.Bf7 Go.Proofs.Ytoeaoanaefipaaa.Bf8 Go.Proofs.Ytoeaoanaefipaaa.Bf9 Go.Proofs.Ytoeaoanaefipaaa.BfN Go.Proofs.Ytoeaoanaefipaaa.Bfa Go.Proofs.Ytoeaoanaefipaaa.BfQ Go.Proofs.Ytoeaoanaefipaaa.Bfb Go.Proofs.Ytoeaoanaefipaaa.Bfc Go.Proofs.Ytoeaoanaefipaaa.Bfd
attribute [local go_sem] cellS1 frozenS1 cellS2 frozenS2 cellS3 frozenS3 cellS4 frozenS4 cellS5 frozenS5 cellS6 frozenS6

theorem u8b {x : Int} (h : (Lit.int .u8 x).wf = true) : 0 ≤ x ∧ x ≤ 255 := by
  simp [Lit.wf, IntKind.min, IntKind.max, IntKind.signed, IntKind.bits] at h
  omega
theorem C_cells2 {w : World} {ad : Addr} {b : List Int} (h : Kd.C (Kd.int .u8) w (some ad) b.length b) : ∀ j v, (b.map (Value.int .u8))[j]? = some v → w.cell? (ad.add j) = some v := by
  intro j v hj
  by_cases hp : 0 < b.length
  · obtain ⟨ad', e, hc⟩ := C_cells h hp
    cases e
    exact hc j v hj
  · have : b = [] := List.eq_nil_of_length_eq_zero (by omega)
    subst this
    cases hj
theorem one_cells (s : List Int) : ∀ u ∈ s.map (Value.int .u8), u.oneCell' = true := by
  intro u hu
  obtain ⟨y, _, rfl⟩ := List.mem_map.1 hu
  rfl
theorem below_app {w2 w9 : World} {o : Obj} {n c : Nat} (h : (w2.alloc o).grownBy w9 (Value.slice (some ⟨w2.heap.size, 0, none⟩) n c).ownBlock) : Below w2.heap.size w2 w9 :=
  ⟨h.os, h.tape, h.output, Nat.le_trans (by simp) h.size, fun j hj => (h.block j (by simp; omega) (by simp [Value.ownBlock]; omega)).trans (Below.heap_alloc w2 o j hj)⟩
theorem own_nine {w9 : World} {n0 : Nat} {v' : Value} {s s9 : List Int} (e : 9 :: 9 :: s = s9) (h : w9.ownsRow n0 5 1 v' (2 + s.length) ([.int .u8 9, .int .u8 9] ++ s.map (Value.int .u8))) : w9.ownsRow n0 5 1 v' s9.length (s9.map (Value.int .u8)) := by
  subst e
  rw [show (9 :: 9 :: s : List Int).length = 2 + s.length by simp; omega]
  exact h
theorem not_kind27 (cs : Array Value) : ¬ BufKind (.cells cs 27 (0, 0)) := by
  rintro (h | ⟨cs', t, fr, e, ht⟩)
  · exact h _ _ _ rfl
  · cases e
    rcases ht with e | e <;> cases e
set_option maxRecDepth 100000 in
set_option maxHeartbeats 4000000 in
theorem order_any (A0 : Option Addr) (n0 c0 : Nat) (sf : Nat → Option Addr) (cp : Nat → Nat) (bf : Nat → List Int) (ep ix : Nat) (w : World) (hr0 : Rd.BytesAt w A0 n0 sf cp bf) (hm0 : n0 ≤ maxLen) (hz0 : ∀ j, j < n0 → (bf j).length ≤ 140737488351232) (hep : ep ≤ 255) (hix : ix ≤ 255) :
    Calls Try.prog 4 #[.slice A0 n0 c0, .int .u8 (ep : Int), .int .u8 (ix : Int)] w fun en w' => en = .returned (.bool true) ∧ Below w.heap.size w w' := by
  obtain ⟨i5, hi5, hz5, hs5, hb5⟩ := info_parts info5
  obtain ⟨i27, hi27, hz27, hs27, hb27⟩ := info_parts info27
  have HZ5 := Aside0.mk (And.intro hi5 (And.intro hz5 (And.intro hs5 hb5)))
  have HZ27 := Aside0.mk (And.intro hi27 (And.intro hz27 (And.intro hs27 hb27)))
  have HR0 := Aside0.mk hr0
  unfold maxLen at hm0
  obtain ⟨i1, hi1⟩ : ∃ i1 : Int, (1 : Int) + (ix : Int) = i1 := ⟨_, rfl⟩
  have hi1b : 1 ≤ i1 ∧ i1 ≤ 256 := by omega
  have HI1 := Aside0.mk hi1b
  have HZ0 := Aside0.mk hz0
  clear hr0 hz0 hi5 hz5 hs5 hb5 hi27 hz27 hs27 hb27 hi1b
  go_enter Try.func4, Try.ntmps4
  go_wp2_with (first | (go_at_call 7; go_loud (refine (buf_new 64 _ (by omega) (by omega)).mono ?_; rintro en w1 ⟨g, rfl, a1, a2⟩; have J1 := Aside0.mk a1; have J2 := Aside0.mk a2; clear a1 a2)))
  clear hi1
  go_loopw [10, 11] (fun vw vi wr => ∃ (k : Nat) (X : List (List Int)) (L : List It) (lo : Int) (Aw : Option Addr) (cw : Nat), vi = .int .i64 k ∧ k ≤ 60 ∧ vw = .slice Aw X.length cw ∧ X.length ≤ k ∧ Aside0 (OrdI (ep : Int) i1 X L) ∧ Aside0 (IsBuf w wr g 64 L lo (140 * k)) ∧ Aside0 (Want w wr (.slice Aw X.length cw) X) ∧ Aside0 (Below w.heap.size w wr) ∧ Aside0 (∀ y ∈ X, ∀ u ∈ y, 0 ≤ u ∧ u ≤ 255)) (fun _ vi _ => 60 - (intOf vi).toNat)
  case atStart => exact ⟨0, [], [], 0, none, 0, rfl, by omega, rfl, Nat.le_refl _, ⟨OrdI.start _ _⟩, J1, ⟨⟨[], World.ownsRow_nil _ _ _ _, fun i hi => absurd hi (Nat.not_lt_zero _)⟩⟩, J2, ⟨fun y hy => absurd hy List.not_mem_nil⟩⟩
  case round =>
    obtain ⟨k, X, L, lo, Aw, cw, rfl, hk, rfl, hXk, HO, P1, P2, P3, HXB⟩ := hrel
    clear J1 J2
    by_cases c5 : k < n0
    · have c5b : decide ((k : Int) < (n0 : Int)) = true := decide_eq_true (by omega)
      by_cases c6 : k < 60
      · have c6b : decide ((k : Int) < 60) = true := decide_eq_true (by omega)
        obtain ⟨⟨ad0, e0, hx0⟩, hC, hcp, hbm, hbw⟩ := HR0.out k c5
        subst e0
        have hS : ∀ y ∈ bf k, 0 ≤ y ∧ y ≤ 255 := fun y hy => u8b (hbw y hy)
        have X0 := Aside0.mk hx0
        have HC := Aside0.mk hC
        have HSB := Aside0.mk hS
        have HBM := Aside0.mk hbm
        have x0 := cell_bel P3.out hx0
        have kz0 : (0 : Int) ≤ (k : Int) := by omega
        have kz1 : (k : Int) < (n0 : Int) := by omega
        clear hx0 hC hS hbw hcp
        have hbz := HZ0.out k c5
        obtain ⟨s, hs⟩ : ∃ s, bf k = s := ⟨_, rfl⟩
        rw [hs] at X0 HC HSB HBM x0 hbm hbz
        obtain ⟨S0, hS0⟩ : ∃ S0, sf k = S0 := ⟨_, rfl⟩
        rw [hS0] at X0 HC x0
        obtain ⟨cq0, hcq0⟩ : ∃ cq0, cp k = cq0 := ⟨_, rfl⟩
        rw [hcq0] at X0 x0
        have HBZ := Aside0.mk hbz
        clear hs hS0 hcq0 hbm hbz
        have hst1 := OrdI.step1 (ep : Int) i1 lo X L s HO.out P1.out.ok
        obtain ⟨PP, hPP⟩ : ∃ PP, putS 64 L lo (ep : Int) i1 s = PP := ⟨_, rfl⟩
        rw [hPP] at hst1
        have HST1 := Aside0.mk hst1
        have HPP := Aside0.mk hPP
        clear hst1 hPP
        obtain ⟨r1, L1, lo1⟩ := PP
        dsimp only at HST1
        have hmx : 140 * k + 66 < maxLen := by unfold maxLen; omega
        have HMX := Aside0.mk hmx
        clear hmx
        go_upto_region 10 with (first | (go_at_call 8; go_loud (refine (buf_put g 64 L lo (140 * k) (ep : Int) i1 S0 s cq0 w _ P1.out (fun W hW => C_below HC.out (hW.below P3.out (Nat.le_refl _))) HSB.out HMX.out HBM.out).mono ?_; rw [HPP.out]; rintro en w2 ⟨rfl, a1, a2⟩; have M1 := Aside0.mk a1; have M2 := Aside0.mk a2; clear a1 a2)))
        have hB2 := M2.out.below P3.out (Nat.le_refl _)
        have hst2 := OrdI.step2 (ep : Int) i1 lo1
        obtain ⟨P9, hP9⟩ : ∃ P9, putS 64 L1 lo1 ((ep : Int) + 1) i1 (9 :: 9 :: s) = P9 := ⟨_, rfl⟩
        have HP9 := Aside0.mk hP9
        have HST2 : Aside0 ((r1 = 0 ∧ (∀ y ∈ X, y ≠ s) ∧ OrdI (ep : Int) i1 (X ++ [s]) P9.2.1) ∨ (r1 ≠ 0 ∧ OrdI (ep : Int) i1 X P9.2.1)) := ⟨by
          rcases HST1.out with ⟨q1, q2, q3⟩ | ⟨q1, q2⟩
          · have := hst2 _ L1 (9 :: 9 :: s) q3 M1.out.ok
            rw [hP9] at this
            exact Or.inl ⟨q1, q2, this⟩
          · have := hst2 _ L1 (9 :: 9 :: s) q2 M1.out.ok
            rw [hP9] at this
            exact Or.inr ⟨q1, this⟩⟩
        obtain ⟨r9, L9, lo9⟩ := P9
        dsimp only at HST2
        obtain ⟨s9, hs9⟩ : ∃ s9, 9 :: 9 :: s = s9 := ⟨_, rfl⟩
        rw [hs9] at HP9
        have HS9 := Aside0.mk hs9
        have HB2 := Aside0.mk hB2
        have W2 := P2.out.keep M2.out
        have HW2 := Aside0.mk W2
        have x2 := cell_bel hB2 X0.out
        have hw2 := hB2.size
        have hmx : 140 * k + 66 + 66 < maxLen := by unfold maxLen; omega
        have HMX2 := Aside0.mk hmx
        clear hst2 hP9 HST1 hs9 hB2 W2 x0 hmx P1 P2
        cases S0 with
        | none =>
          have HSB9 : Aside0 (∀ y ∈ s9, 0 ≤ y ∧ y ≤ 255) := ⟨by rw [← HS9.out]; intro y hy; simp at hy; rcases hy with rfl | hy; omega; exact HSB.out y hy⟩
          have HBM9 : Aside0 (s9.length ≤ maxLen) := ⟨by rw [← HS9.out]; have := HBZ.out; unfold maxLen; simp; omega⟩
          obtain ⟨hi5, hz5, hs5, hb5⟩ := HZ5.out
          have hbz := HBZ.out
          have hs0 : s = [] := by
            cases s with
            | nil => rfl
            | cons y s => obtain ⟨ad, e, _⟩ := C_cells HC.out (by simp); cases e
          subst hs0
          obtain rfl : s9 = [9, 9] := HS9.out.symm
          go_upto_region 11 with (first | (go_at_call 8; go_loud (refine (buf_put g 64 L1 lo1 (140 * k + 66) ((ep : Int) + 1) i1 (some ⟨w2.heap.size, 0, none⟩) [9, 9] 2 w _ (M1.out.alloc _) (fun W hW => bytes_C (cs := #[.int .u8 9, .int .u8 9]) (fr := (0, 0)) (blk_new _ _) (two_get 9 9) (two_len _ _) hW) HSB9.out HMX2.out HBM9.out).mono ?_; rw [HP9.out]; rintro en w3 ⟨rfl, a1, a2⟩; have M3 := Aside0.mk a1; have M4 := Aside0.mk a2; clear a1 a2)))
          have B9 : Aside0 (Below w2.heap.size w2 (w2.alloc (.cells #[.int .u8 9, .int .u8 9] 5))) := ⟨below_alloc (Below.refl _ _) _⟩
          have hB3 : Below w.heap.size w w3 := M4.out.below (below_step HB2.out B9.out) (Nat.le_refl _)
          have hW3 := (HW2.out.keep (Keep.of_below B9.out)).keep M4.out
          refine wp_gen (fun W => IsBuf w W g 64 L9 lo9 (140 * k + 66 + 66) ∧ Want w W (.slice Aw X.length cw) X ∧ Below w.heap.size w W) ⟨M3.out, hW3, hB3⟩ ?_
          clear M1 M2 M3 M4 HB2 HW2 x2 hw2 HP9 HS9 HSB9 HBM9 hB3 hW3 HPP HMX HMX2 hi5 hz5 hs5 hb5 B9
          rintro W ⟨q1, q2, q3⟩
          have Q1 := Aside0.mk q1
          have Q2 := Aside0.mk q2
          have Q3 := Aside0.mk q3
          clear q1 q2 q3
          go_wp2
          go_loopw [13, 14] (fun vg vj w4 => ∃ (j : Nat) (bg : Bool), vj = .int .i64 j ∧ j ≤ X.length ∧ vg = .bool bg ∧ Aside0 (bg = true → ∃ y ∈ X, y = []) ∧ Aside0 (Below W.heap.size W w4)) (fun _ vj _ => X.length - (intOf vj).toNat)
          case atStart => exact ⟨0, false, rfl, Nat.zero_le _, rfl, ⟨fun e => by cases e⟩, ⟨Below.refl _ _⟩⟩
          case round =>
            obtain ⟨j, bg, rfl, hj, rfl, HBG, R1⟩ := hrel
            by_cases hjl : j < X.length
            · have hjb : decide ((j : Int) < (X.length : Int)) = true := decide_eq_true (by omega)
              cases bg with
              | true =>
                go_upto_region 15 with (fail)
                go_quiet (fail)
                go_wp2
                go_roundw
                case rel => exact ⟨j + 1, true, by go_num, by omega, rfl, HBG, ⟨pw_below_drewN R1.out _⟩⟩
                case measure => simp [intOf]; omega
              | false =>
                have hbb := below_step Q3.out R1.out
                obtain ⟨ad1, S1, cc1, e1, y1, y2⟩ := (Q2.out.strs rfl Q3.out).below R1.out j hjl
                subst e1
                have hmem : X.getD j [] ∈ X := by rw [List.getD_eq_getElem?_getD, List.getElem?_eq_getElem hjl]; exact List.getElem_mem hjl
                obtain ⟨y, hy⟩ : ∃ y, X.getD j [] = y := ⟨_, rfl⟩
                rw [hy] at y1 y2 hmem
                have x4 := cell_bel hbb X0.out
                have v1 : ∀ m, (convert 27 9 (.slice S1 y.length cc1)).run Try.prog (wr.drewN m) = .ok (.string (strOfNums y)) (wr.drewN m) := fun m => Kd.C_string Try.underlying27 Try.underlying5 Try.underlying9 (C_below y2 (pw_below_drewN (Below.refl _ _) m))
                have v2 : ∀ m, (convert 27 9 (.slice none 0 cq0)).run Try.prog (wr.drewN m) = .ok (.string (strOfNums [])) (wr.drewN m) := fun m => Kd.C_string Try.underlying27 Try.underlying5 Try.underlying9 (C_below (C_below HC.out hbb) (pw_below_drewN (Below.refl _ _) m))
                have hz0 : (0 : Int) ≤ (j : Int) := by omega
                have hz1 : (j : Int) < (X.length : Int) := by omega
                clear y2 hy hbb
                by_cases hys : y = []
                · have heq : ((strOfNums y).toList == (strOfNums []).toList) = true := by rw [hys]; simp
                  have HYS := Aside0.mk (And.intro hmem hys)
                  clear hys hmem
                  go_upto_region 15 with (fail)
                  go_quiet (fail)
                  go_wp2
                  go_roundw
                  case rel => exact ⟨j + 1, true, by go_num, by omega, rfl, ⟨fun _ => ⟨y, HYS.out.1, HYS.out.2⟩⟩, ⟨pw_below_drewN R1.out _⟩⟩
                  case measure => simp [intOf]; omega
                · have heq : ((strOfNums y).toList == (strOfNums []).toList) = false := by
                    rw [Bool.eq_false_iff]
                    intro e
                    exact hys (u8_injT (HXB.out y hmem) HSB.out (by simpa using e))
                  clear hys hmem
                  go_upto_region 15 with (fail)
                  go_quiet (fail)
                  go_wp2
                  go_roundw
                  case rel => exact ⟨j + 1, false, by go_num, by omega, rfl, ⟨fun e => by cases e⟩, ⟨pw_below_drewN R1.out _⟩⟩
                  case measure => simp [intOf]; omega
            · have hjb : decide ((j : Int) < (X.length : Int)) = false := decide_eq_false (by omega)
              have hB4 := below_step Q3.out R1.out
              have hI4 := Q1.out.below R1.out
              have hW4 := Q2.out.kept (row := none) (grown_below R1.out) (fun r e => by cases e)
              rcases HST2.out with ⟨q1, q2, q3⟩ | ⟨q1, q3⟩
              · have hbg : bg = false := by
                  cases bg with
                  | false => rfl
                  | true => obtain ⟨y, h1, h2⟩ := HBG.out rfl; exact absurd h2 (q2 y h1)
                subst hbg
                have hr0 : (r1 == 0) = true := by simp [q1]
                have HQ3 := Aside0.mk q3
                have x4 := cell_bel hB4 X0.out
                obtain ⟨vs, hown, hvs⟩ := id hW4
                have HVS := Aside0.mk hvs
                have hon : ∀ g, (Value.slice Aw X.length cw).ownBlock = some g → w.heap.size ≤ g ∧ ∃ cs, wr.heap[g]? = some (.cells cs 27 (0, 0)) := fun g e => own_ge hown e
                have HON := Aside0.mk hon
                have HI4 := Aside0.mk hI4
                have HB4 := Aside0.mk hB4
                obtain ⟨hi27, hz27, hs27, hb27⟩ := HZ27.out
                have hwz := hB4.size
                clear q1 q2 q3 hB4 hI4 hW4 hvs hon HST2 HBG
                go_wp2_with (first | (at_builtin; go_loud (refine wpList_append_own _ rfl _ _ 28 rfl w.heap.size 27 i27 _ 1 24 Try.underlying28 hi27 hz27 hs27 hb27 rfl (by decide) _ _ _ rfl (hown.alloc _) ⟨wr.heap.size, 0, none⟩ 1 1 [.slice none 0 cq0] rfl rfl (cell_one_new _ _ _) (by simp [Value.oneCell']) (by unfold maxLen; omega) (by omega) (by simp; omega) ?_; intro v' w9 hown' hgrow _; obtain ⟨Ap, cq, rfl⟩ := own_slice2 hown'; have O9 := Aside0.mk hown'; have G9 := Aside0.mk hgrow; clear hown' hgrow)))
                have hnl : (X ++ [[]]).length = X.length + 1 := by simp
                have HNL := Aside0.mk hnl
                clear hnl
                go_roundw
                case rel =>
                  have hall := (World.grownBy_alloc wr (.cells #[.slice none 0 cq0] 27) (Value.slice Aw X.length cw).ownBlock).trans G9.out
                  have hlen : vs.length = X.length := by have := hown.1; omega
                  refine ⟨k + 1, X ++ [[]], L9, lo9, Ap, cq, by go_num, by omega, by rw [HNL.out], by rw [HNL.out]; omega, HQ3, ⟨(HI4.out.kept hall (fun r er => by obtain ⟨_, cs, hcs⟩ := HON.out _ er; exact ⟨_, hcs, not_kind27 _⟩)).mono (by omega)⟩, ⟨by rw [HNL.out]; exact Want.snoc hlen HVS.out HC.out O9.out⟩, ⟨?_⟩, ⟨fun y hy => ?_⟩⟩
                  · exact HB4.out.grown hall hwz (fun r er => (HON.out _ er).1)
                  · rcases List.mem_append.1 hy with hy | hy
                    · exact HXB.out y hy
                    · rw [List.mem_singleton.1 hy]; exact HSB.out
                case measure => simp [intOf]; omega
              · have hr0 : (r1 == 0) = false := by simp [q1]
                have HQ3 := Aside0.mk q3
                have HI4 := Aside0.mk hI4
                have HW4 := Aside0.mk hW4
                have HB4 := Aside0.mk hB4
                clear q1 q3 hB4 hI4 hW4 HST2 HBG
                go_wp2
                go_roundw
                case rel => exact ⟨k + 1, X, L9, lo9, Aw, cw, by go_num, by omega, rfl, by omega, HQ3, ⟨HI4.out.mono (by omega)⟩, HW4, HB4, HXB⟩
                case measure => simp [intOf]; omega
        | some ad =>
          have HSB9 : Aside0 (∀ y ∈ s9, 0 ≤ y ∧ y ≤ 255) := ⟨by rw [← HS9.out]; intro y hy; simp at hy; rcases hy with rfl | hy; omega; exact HSB.out y hy⟩
          have HBM9 : Aside0 (s9.length ≤ maxLen) := ⟨by rw [← HS9.out]; have := HBZ.out; unfold maxLen; simp; omega⟩
          obtain ⟨hi5, hz5, hs5, hb5⟩ := HZ5.out
          have hbz := HBZ.out
          go_upto_region 11 with (first | (at_builtin; go_loud (refine wpList_append_own _ rfl _ _ 27 rfl w.heap.size 5 i5 (.int .u8 0) 1 1 Try.underlying27 hi5 hz5 hs5 hb5 rfl (by decide) (.slice (some ⟨w2.heap.size, 0, none⟩) 2 2) 2 [.int .u8 9, .int .u8 9] rfl (own_fresh w2 w.heap.size [9, 9] hw2 (by decide)) ad s.length cq0 (s.map (Value.int .u8)) rfl (by simp) (C_cells2 (C_below HC.out (below_alloc HB2.out _))) (one_cells s) (by unfold maxLen; omega) (by omega) (by simp; omega) ?_; intro v' w9 hown' hgrow _; have b9 := below_app hgrow; replace hown' := own_nine HS9.out hown'; obtain ⟨Ap, cq, rfl⟩ := own_slice2 hown'; have O9 := Aside0.mk hown'; have B9 := Aside0.mk b9; clear hown' hgrow b9)) | (go_at_call 8; go_loud (refine (buf_put g 64 L1 lo1 (140 * k + 66) ((ep : Int) + 1) i1 Ap s9 cq w _ (M1.out.below B9.out) (fun W hW => own_C O9.out hW HBM9.out) HSB9.out HMX2.out HBM9.out).mono ?_; rw [HP9.out]; rintro en w3 ⟨rfl, a1, a2⟩; have M3 := Aside0.mk a1; have M4 := Aside0.mk a2; clear a1 a2)))
          have hB3 : Below w.heap.size w w3 := M4.out.below (below_step HB2.out B9.out) (Nat.le_refl _)
          have hW3 := (HW2.out.keep (Keep.of_below B9.out)).keep M4.out
          refine wp_gen (fun W => IsBuf w W g 64 L9 lo9 (140 * k + 66 + 66) ∧ Want w W (.slice Aw X.length cw) X ∧ Below w.heap.size w W) ⟨M3.out, hW3, hB3⟩ ?_
          clear M1 M2 M3 M4 HB2 HW2 x2 hw2 HP9 HS9 HSB9 HBM9 hB3 hW3 HPP HMX HMX2 hi5 hz5 hs5 hb5 O9 B9
          rintro W ⟨q1, q2, q3⟩
          have Q1 := Aside0.mk q1
          have Q2 := Aside0.mk q2
          have Q3 := Aside0.mk q3
          clear q1 q2 q3
          go_wp2
          go_loopw [13, 14] (fun vg vj w4 => ∃ (j : Nat) (bg : Bool), vj = .int .i64 j ∧ j ≤ X.length ∧ vg = .bool bg ∧ Aside0 (bg = true → ∃ y ∈ X, y = s) ∧ Aside0 (Below W.heap.size W w4)) (fun _ vj _ => X.length - (intOf vj).toNat)
          case atStart => exact ⟨0, false, rfl, Nat.zero_le _, rfl, ⟨fun e => by cases e⟩, ⟨Below.refl _ _⟩⟩
          case round =>
            obtain ⟨j, bg, rfl, hj, rfl, HBG, R1⟩ := hrel
            by_cases hjl : j < X.length
            · have hjb : decide ((j : Int) < (X.length : Int)) = true := decide_eq_true (by omega)
              cases bg with
              | true =>
                go_upto_region 15 with (fail)
                go_quiet (fail)
                go_wp2
                go_roundw
                case rel => exact ⟨j + 1, true, by go_num, by omega, rfl, HBG, ⟨pw_below_drewN R1.out _⟩⟩
                case measure => simp [intOf]; omega
              | false =>
                have hbb := below_step Q3.out R1.out
                obtain ⟨ad1, S1, cc1, e1, y1, y2⟩ := (Q2.out.strs rfl Q3.out).below R1.out j hjl
                subst e1
                have hmem : X.getD j [] ∈ X := by rw [List.getD_eq_getElem?_getD, List.getElem?_eq_getElem hjl]; exact List.getElem_mem hjl
                obtain ⟨y, hy⟩ : ∃ y, X.getD j [] = y := ⟨_, rfl⟩
                rw [hy] at y1 y2 hmem
                have x4 := cell_bel hbb X0.out
                have v1 : ∀ m, (convert 27 9 (.slice S1 y.length cc1)).run Try.prog (wr.drewN m) = .ok (.string (strOfNums y)) (wr.drewN m) := fun m => Kd.C_string Try.underlying27 Try.underlying5 Try.underlying9 (C_below y2 (pw_below_drewN (Below.refl _ _) m))
                have v2 : ∀ m, (convert 27 9 (.slice (some ad) s.length cq0)).run Try.prog (wr.drewN m) = .ok (.string (strOfNums s)) (wr.drewN m) := fun m => Kd.C_string Try.underlying27 Try.underlying5 Try.underlying9 (C_below (C_below HC.out hbb) (pw_below_drewN (Below.refl _ _) m))
                have hz0 : (0 : Int) ≤ (j : Int) := by omega
                have hz1 : (j : Int) < (X.length : Int) := by omega
                clear y2 hy hbb
                by_cases hys : y = s
                · have heq : ((strOfNums y).toList == (strOfNums s).toList) = true := by rw [hys]; simp
                  have HYS := Aside0.mk (And.intro hmem hys)
                  clear hys hmem
                  go_upto_region 15 with (fail)
                  go_quiet (fail)
                  go_wp2
                  go_roundw
                  case rel => exact ⟨j + 1, true, by go_num, by omega, rfl, ⟨fun _ => ⟨y, HYS.out.1, HYS.out.2⟩⟩, ⟨pw_below_drewN R1.out _⟩⟩
                  case measure => simp [intOf]; omega
                · have heq : ((strOfNums y).toList == (strOfNums s).toList) = false := by
                    rw [Bool.eq_false_iff]
                    intro e
                    exact hys (u8_injT (HXB.out y hmem) HSB.out (by simpa using e))
                  clear hys hmem
                  go_upto_region 15 with (fail)
                  go_quiet (fail)
                  go_wp2
                  go_roundw
                  case rel => exact ⟨j + 1, false, by go_num, by omega, rfl, ⟨fun e => by cases e⟩, ⟨pw_below_drewN R1.out _⟩⟩
                  case measure => simp [intOf]; omega
            · have hjb : decide ((j : Int) < (X.length : Int)) = false := decide_eq_false (by omega)
              have hB4 := below_step Q3.out R1.out
              have hI4 := Q1.out.below R1.out
              have hW4 := Q2.out.kept (row := none) (grown_below R1.out) (fun r e => by cases e)
              rcases HST2.out with ⟨q1, q2, q3⟩ | ⟨q1, q3⟩
              · have hbg : bg = false := by
                  cases bg with
                  | false => rfl
                  | true => obtain ⟨y, h1, h2⟩ := HBG.out rfl; exact absurd h2 (q2 y h1)
                subst hbg
                have hr0 : (r1 == 0) = true := by simp [q1]
                have HQ3 := Aside0.mk q3
                have x4 := cell_bel hB4 X0.out
                obtain ⟨vs, hown, hvs⟩ := id hW4
                have HVS := Aside0.mk hvs
                have hon : ∀ g, (Value.slice Aw X.length cw).ownBlock = some g → w.heap.size ≤ g ∧ ∃ cs, wr.heap[g]? = some (.cells cs 27 (0, 0)) := fun g e => own_ge hown e
                have HON := Aside0.mk hon
                have HI4 := Aside0.mk hI4
                have HB4 := Aside0.mk hB4
                obtain ⟨hi27, hz27, hs27, hb27⟩ := HZ27.out
                have hwz := hB4.size
                clear q1 q2 q3 hB4 hI4 hW4 hvs hon HST2 HBG
                go_wp2_with (first | (at_builtin; go_loud (refine wpList_append_own _ rfl _ _ 28 rfl w.heap.size 27 i27 _ 1 24 Try.underlying28 hi27 hz27 hs27 hb27 rfl (by decide) _ _ _ rfl (hown.alloc _) ⟨wr.heap.size, 0, none⟩ 1 1 [.slice (some ad) s.length cq0] rfl rfl (cell_one_new _ _ _) (by simp [Value.oneCell']) (by unfold maxLen; omega) (by omega) (by simp; omega) ?_; intro v' w9 hown' hgrow _; obtain ⟨Ap, cq, rfl⟩ := own_slice2 hown'; have O9 := Aside0.mk hown'; have G9 := Aside0.mk hgrow; clear hown' hgrow)))
                have hnl : (X ++ [s]).length = X.length + 1 := by simp
                have HNL := Aside0.mk hnl
                clear hnl
                go_roundw
                case rel =>
                  have hall := (World.grownBy_alloc wr (.cells #[.slice (some ad) s.length cq0] 27) (Value.slice Aw X.length cw).ownBlock).trans G9.out
                  have hlen : vs.length = X.length := by have := hown.1; omega
                  refine ⟨k + 1, X ++ [s], L9, lo9, Ap, cq, by go_num, by omega, by rw [HNL.out], by rw [HNL.out]; omega, HQ3, ⟨(HI4.out.kept hall (fun r er => by obtain ⟨_, cs, hcs⟩ := HON.out _ er; exact ⟨_, hcs, not_kind27 _⟩)).mono (by omega)⟩, ⟨by rw [HNL.out]; exact Want.snoc hlen HVS.out HC.out O9.out⟩, ⟨?_⟩, ⟨fun y hy => ?_⟩⟩
                  · exact HB4.out.grown hall hwz (fun r er => (HON.out _ er).1)
                  · rcases List.mem_append.1 hy with hy | hy
                    · exact HXB.out y hy
                    · rw [List.mem_singleton.1 hy]; exact HSB.out
                case measure => simp [intOf]; omega
              · have hr0 : (r1 == 0) = false := by simp [q1]
                have HQ3 := Aside0.mk q3
                have HI4 := Aside0.mk hI4
                have HW4 := Aside0.mk hW4
                have HB4 := Aside0.mk hB4
                clear q1 q3 hB4 hI4 hW4 HST2 HBG
                go_wp2
                go_roundw
                case rel => exact ⟨k + 1, X, L9, lo9, Aw, cw, by go_num, by omega, rfl, by omega, HQ3, ⟨HI4.out.mono (by omega)⟩, HW4, HB4, HXB⟩
                case measure => simp [intOf]; omega
      · have c6b : decide ((k : Int) < 60) = false := decide_eq_false (by omega)
        have ht := two_cells (ep : Int) i1 L HO.out.1
        obtain ⟨hz9, hz8, m0, hm0l, hf, hz7⟩ := HO.out
        have hgl := congrArg List.length hf
        rw [List.length_map, List.length_take, Nat.min_eq_left hm0l] at hgl
        have hok := P1.out.ok
        obtain ⟨G, hG⟩ : ∃ G, L.filter (atC (ep : Int) i1) = G := ⟨_, rfl⟩
        obtain ⟨L2, hL2⟩ : ∃ L2, L.filter (fun x => !atC (ep : Int) i1 x) = L2 := ⟨_, rfl⟩
        have hgi : ∀ x ∈ G, ItOk x := fun x hx => by rw [← hG] at hx; exact hok x (List.mem_filter.1 hx).1
        rw [hG] at hf hgl
        rw [← hgl] at hf
        have hgx : G.length ≤ X.length := by omega
        have hc2 : cnt L2 (ep : Int) i1 = 0 := by
          rw [← hL2]
          exact cnt_none _ _ _ (fun x hx hh => by have := (List.mem_filter.1 hx).2; unfold atC at this; simp [hh.1, hh.2] at this)
        have hf2 : L2.filter (atC (ep : Int) i1) = [] := by
          rw [← hL2, List.filter_filter]
          exact List.filter_eq_nil_iff.2 (fun x hx => by simp)
        have HGI := Aside0.mk hgi
        have HF := Aside0.mk hf
        have HG := Aside0.mk hG
        have HL2 := Aside0.mk hL2
        have HC2 := Aside0.mk hc2
        have HF2 := Aside0.mk hf2
        have hmx : 140 * k + 64 < maxLen := by unfold maxLen; omega
        have hmx2 : 140 * k + 64 + 64 < maxLen := by unfold maxLen; omega
        have HMX := Aside0.mk hmx
        have HMX2 := Aside0.mk hmx2
        obtain ⟨vs, hown, hvs⟩ := P2.out
        have hcap : X.length ≤ cw := by
          rcases own_form hown with ⟨_, e2, _⟩ | ⟨gk, _, e2, _⟩
          · omega
          · exact e2
        have hX60 : X.length ≤ 60 := by omega
        have hi1 := HI1.out
        have hxn : Aw = none → X.length = 0 ∧ cw = 0 := fun e => by
          rcases own_form hown with ⟨_, e2, e3⟩ | ⟨gk, e2, _⟩
          · exact ⟨e2, e3⟩
          · rw [e] at e2; cases e2
        have HXN := Aside0.mk hxn
        have hlb : decide ((G.length : Int) ≤ (X.length : Int)) = true := decide_eq_true (by omega)
        have hz0 : (0 : Int) ≤ (G.length : Int) := by omega
        have hz1 : (G.length : Int) ≤ (cw : Int) := by omega
        clear ht hf hgl hm0l hok hG hL2 hgi hc2 hf2 hmx hmx2 hown hvs hxn vs hz9 hz8 hz7 m0
        go_upto_region 21 with (first | (go_at_call 9; go_loud (refine (buf_take g 64 L lo (140 * k) (ep : Int) i1 w _ P1.out HMX.out).mono ?_; rw [HG.out, HL2.out]; rintro en w4 ⟨A, c, rfl, a1, a2, a3⟩; have M1 := Aside0.mk a1; have M2 := Aside0.mk a2; have M3 := Aside0.mk a3; clear a1 a2 a3)))
        have hB4 := M3.out.below P3.out (Nat.le_refl _)
        have HB4 := Aside0.mk hB4
        have HW4 := Aside0.mk (P2.out.keep M3.out)
        have SM : Aside0 (StrsAt w4 Aw (G.map (fun x => x.2.2))) := ⟨by rw [HF.out]; exact (HW4.out.strs rfl HB4.out).take _⟩
        have SG := Aside0.mk (gone_strs M1.out HGI.out)
        clear hB4
        cases Aw with
        | none =>
          obtain ⟨e1, e2⟩ := HXN.out rfl
          have hg0 : G.length = 0 := by omega
          have HG0 := Aside0.mk hg0
          rw [hg0] at hlb hz0 hz1
          clear e1 e2 hg0
          rw [HG0.out]
          go_wp2_with (first | (go_at_call 12; go_loud (with_reducible refine (same_yes A none c cw 0 (G.map (fun x => x.2.2)) _ (by rw [List.length_map] ; exact HG0.out) SG.out SM.out (by omega)).mono ?_; rintro en w5 ⟨rfl, b5⟩; have B5 := Aside0.mk b5; clear b5)) | (go_at_call 13; go_loud (refine (buf_count g 64 L2 lo _ w _ (M2.out.below B5.out) (ep : Int) i1 (wf64 (by omega) (by omega)) (wf64 (by omega) (by omega))).mono ?_; rw [HC2.out]; rintro en w6 ⟨rfl, rfl⟩)) | (go_at_call 9; go_loud (refine (buf_take g 64 L2 lo (140 * k + 64) (ep : Int) i1 w _ (M2.out.below B5.out) HMX2.out).mono ?_; rw [HF2.out]; rintro en w7 ⟨A7, c7, rfl, _, _, a3⟩; have M7 := Aside0.mk a3; clear a3)) | (go_at_call 11; go_loud (refine (awake_ok _).mono ?_; rintro en wz ⟨rfl, hbz⟩; have BZ := Aside0.mk hbz; clear hbz)))
          go_ret
          exact ⟨rfl, below_step (M7.out.below (below_step HB4.out B5.out) (Nat.le_refl _)) BZ.out⟩
        | some aw =>
          go_wp2_with (first | (go_at_call 12; go_loud (with_reducible refine (same_yes A (some aw) c cw G.length (G.map (fun x => x.2.2)) _ (by rw [List.length_map]) SG.out SM.out (by omega)).mono ?_; rintro en w5 ⟨rfl, b5⟩; have B5 := Aside0.mk b5; clear b5)) | (go_at_call 13; go_loud (refine (buf_count g 64 L2 lo _ w _ (M2.out.below B5.out) (ep : Int) i1 (wf64 (by omega) (by omega)) (wf64 (by omega) (by omega))).mono ?_; rw [HC2.out]; rintro en w6 ⟨rfl, rfl⟩)) | (go_at_call 9; go_loud (refine (buf_take g 64 L2 lo (140 * k + 64) (ep : Int) i1 w _ (M2.out.below B5.out) HMX2.out).mono ?_; rw [HF2.out]; rintro en w7 ⟨A7, c7, rfl, _, _, a3⟩; have M7 := Aside0.mk a3; clear a3)) | (go_at_call 11; go_loud (refine (awake_ok _).mono ?_; rintro en wz ⟨rfl, hbz⟩; have BZ := Aside0.mk hbz; clear hbz)))
          go_ret
          exact ⟨rfl, below_step (M7.out.below (below_step HB4.out B5.out) (Nat.le_refl _)) BZ.out⟩
    · have c5b : decide ((k : Int) < (n0 : Int)) = false := decide_eq_false (by omega)
      have ht := two_cells (ep : Int) i1 L HO.out.1
      obtain ⟨hz9, hz8, m0, hm0l, hf, hz7⟩ := HO.out
      have hgl := congrArg List.length hf
      rw [List.length_map, List.length_take, Nat.min_eq_left hm0l] at hgl
      have hok := P1.out.ok
      obtain ⟨G, hG⟩ : ∃ G, L.filter (atC (ep : Int) i1) = G := ⟨_, rfl⟩
      obtain ⟨L2, hL2⟩ : ∃ L2, L.filter (fun x => !atC (ep : Int) i1 x) = L2 := ⟨_, rfl⟩
      have hgi : ∀ x ∈ G, ItOk x := fun x hx => by rw [← hG] at hx; exact hok x (List.mem_filter.1 hx).1
      rw [hG] at hf hgl
      rw [← hgl] at hf
      have hgx : G.length ≤ X.length := by omega
      have hc2 : cnt L2 (ep : Int) i1 = 0 := by
        rw [← hL2]
        exact cnt_none _ _ _ (fun x hx hh => by have := (List.mem_filter.1 hx).2; unfold atC at this; simp [hh.1, hh.2] at this)
      have hf2 : L2.filter (atC (ep : Int) i1) = [] := by
        rw [← hL2, List.filter_filter]
        exact List.filter_eq_nil_iff.2 (fun x hx => by simp)
      have HGI := Aside0.mk hgi
      have HF := Aside0.mk hf
      have HG := Aside0.mk hG
      have HL2 := Aside0.mk hL2
      have HC2 := Aside0.mk hc2
      have HF2 := Aside0.mk hf2
      have hmx : 140 * k + 64 < maxLen := by unfold maxLen; omega
      have hmx2 : 140 * k + 64 + 64 < maxLen := by unfold maxLen; omega
      have HMX := Aside0.mk hmx
      have HMX2 := Aside0.mk hmx2
      obtain ⟨vs, hown, hvs⟩ := P2.out
      have hcap : X.length ≤ cw := by
        rcases own_form hown with ⟨_, e2, _⟩ | ⟨gk, _, e2, _⟩
        · omega
        · exact e2
      have hX60 : X.length ≤ 60 := by omega
      have hi1 := HI1.out
      have hxn : Aw = none → X.length = 0 ∧ cw = 0 := fun e => by
        rcases own_form hown with ⟨_, e2, e3⟩ | ⟨gk, e2, _⟩
        · exact ⟨e2, e3⟩
        · rw [e] at e2; cases e2
      have HXN := Aside0.mk hxn
      have hlb : decide ((G.length : Int) ≤ (X.length : Int)) = true := decide_eq_true (by omega)
      have hz0 : (0 : Int) ≤ (G.length : Int) := by omega
      have hz1 : (G.length : Int) ≤ (cw : Int) := by omega
      clear ht hf hgl hm0l hok hG hL2 hgi hc2 hf2 hmx hmx2 hown hvs hxn vs hz9 hz8 hz7 m0
      go_upto_region 21 with (first | (go_at_call 9; go_loud (refine (buf_take g 64 L lo (140 * k) (ep : Int) i1 w _ P1.out HMX.out).mono ?_; rw [HG.out, HL2.out]; rintro en w4 ⟨A, c, rfl, a1, a2, a3⟩; have M1 := Aside0.mk a1; have M2 := Aside0.mk a2; have M3 := Aside0.mk a3; clear a1 a2 a3)))
      have hB4 := M3.out.below P3.out (Nat.le_refl _)
      have HB4 := Aside0.mk hB4
      have HW4 := Aside0.mk (P2.out.keep M3.out)
      have SM : Aside0 (StrsAt w4 Aw (G.map (fun x => x.2.2))) := ⟨by rw [HF.out]; exact (HW4.out.strs rfl HB4.out).take _⟩
      have SG := Aside0.mk (gone_strs M1.out HGI.out)
      clear hB4
      cases Aw with
      | none =>
        obtain ⟨e1, e2⟩ := HXN.out rfl
        have hg0 : G.length = 0 := by omega
        have HG0 := Aside0.mk hg0
        rw [hg0] at hlb hz0 hz1
        clear e1 e2 hg0
        rw [HG0.out]
        go_wp2_with (first | (go_at_call 12; go_loud (with_reducible refine (same_yes A none c cw 0 (G.map (fun x => x.2.2)) _ (by rw [List.length_map] ; exact HG0.out) SG.out SM.out (by omega)).mono ?_; rintro en w5 ⟨rfl, b5⟩; have B5 := Aside0.mk b5; clear b5)) | (go_at_call 13; go_loud (refine (buf_count g 64 L2 lo _ w _ (M2.out.below B5.out) (ep : Int) i1 (wf64 (by omega) (by omega)) (wf64 (by omega) (by omega))).mono ?_; rw [HC2.out]; rintro en w6 ⟨rfl, rfl⟩)) | (go_at_call 9; go_loud (refine (buf_take g 64 L2 lo (140 * k + 64) (ep : Int) i1 w _ (M2.out.below B5.out) HMX2.out).mono ?_; rw [HF2.out]; rintro en w7 ⟨A7, c7, rfl, _, _, a3⟩; have M7 := Aside0.mk a3; clear a3)) | (go_at_call 11; go_loud (refine (awake_ok _).mono ?_; rintro en wz ⟨rfl, hbz⟩; have BZ := Aside0.mk hbz; clear hbz)))
        go_ret
        exact ⟨rfl, below_step (M7.out.below (below_step HB4.out B5.out) (Nat.le_refl _)) BZ.out⟩
      | some aw =>
        go_wp2_with (first | (go_at_call 12; go_loud (with_reducible refine (same_yes A (some aw) c cw G.length (G.map (fun x => x.2.2)) _ (by rw [List.length_map]) SG.out SM.out (by omega)).mono ?_; rintro en w5 ⟨rfl, b5⟩; have B5 := Aside0.mk b5; clear b5)) | (go_at_call 13; go_loud (refine (buf_count g 64 L2 lo _ w _ (M2.out.below B5.out) (ep : Int) i1 (wf64 (by omega) (by omega)) (wf64 (by omega) (by omega))).mono ?_; rw [HC2.out]; rintro en w6 ⟨rfl, rfl⟩)) | (go_at_call 9; go_loud (refine (buf_take g 64 L2 lo (140 * k + 64) (ep : Int) i1 w _ (M2.out.below B5.out) HMX2.out).mono ?_; rw [HF2.out]; rintro en w7 ⟨A7, c7, rfl, _, _, a3⟩; have M7 := Aside0.mk a3; clear a3)) | (go_at_call 11; go_loud (refine (awake_ok _).mono ?_; rintro en wz ⟨rfl, hbz⟩; have BZ := Aside0.mk hbz; clear hbz)))
        go_ret
        exact ⟨rfl, below_step (M7.out.below (below_step HB4.out B5.out) (Nat.le_refl _)) BZ.out⟩
theorem order_law (A0 : Option Addr) (n0 c0 : Nat) (sf : Nat → Option Addr) (cp : Nat → Nat) (bf : Nat → List Int) (ep ix : Int) (w : World) (hr0 : Rd.BytesAt w A0 n0 sf cp bf) (hm0 : n0 ≤ maxLen) (hz0 : ∀ j, j < n0 → (bf j).length ≤ 140737488351232) (hep : 0 ≤ ep ∧ ep ≤ 255) (hix : 0 ≤ ix ∧ ix ≤ 255) :
    Calls Try.prog 4 #[.slice A0 n0 c0, .int .u8 ep, .int .u8 ix] w fun en w' => en = .returned (.bool true) ∧ Below w.heap.size w w' := by
  obtain ⟨e', rfl⟩ := Int.eq_ofNat_of_zero_le hep.1
  obtain ⟨i', rfl⟩ := Int.eq_ofNat_of_zero_le hix.1
  exact order_any A0 n0 c0 sf cp bf e' i' w hr0 hm0 hz0 (by omega) (by omega)
end Go.Proofs.Ytoeaoanaefipaaa.Bfe
