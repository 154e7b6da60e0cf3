/- What was so is so. -/
import Derived.Test.YtfaikkhnlioajaaProg
import Derived.Below
import Derived.Deep.Draws
import Derived.Deep.AppendLies
import Derived.Maps.AppendAt
import Derived.OwnWalk
import Derived.Laws.BytesArg
import Derived.Laws.MakeOwn
import Derived.Laws.OwnMore
import Derived.Deep.OwnRows
import Derived.Tactics
import Derived.Lib.ConvBytes
import Derived.Laws.Slices
import Derived.WalkKit
import Derived.KernelRfl
import Derived.RowKit3
import Derived.Deep.LoopGhost
import Derived.Deep.QuietTactic
import Derived.BigQuiet
import Derived.WideLaws
import Derived.Deep.DeepCutAuto
import Derived.Deep.CutBlock
import Derived.Deep.RegionHeld3
import Derived.Laws.Rows
import Derived.Lib.AppendStr
import Derived.ArgAppend
import Derived.Laws.IdiomCopy
import Derived.OrdersHeld
import Derived.Laws.BitsLemmas
import Derived.RowKit
import Derived.RegionTactic
import Derived.ChangeAlike
import Derived.Outline
import Derived.LoopTactic
import Derived.WalkSpells
import Derived.WalkLawsBesides
import Derived.Lib.Hide
import Derived.StillTailTactics
import Derived.Deep.RegionWith
import Derived.Deep.RegionLaw
import Derived.Deep.DeepFit
import Derived.Deep.DeepMust
import Derived.Test.YtfaikkhnlioajaaWWords
import Derived.Test.YtfaikkhnlioajaaWLast
import Derived.Test.YtfaikkhnlioajaaWTab
import Derived.Test.YtfaikkhnlioajaaWFour
import Derived.Test.YtfaikkhnlioajaaWQPut
import Derived.Test.YtfaikkhnlioajaaWApart
import Derived.Test.YtfaikkhnlioajaaWArr
import Derived.Test.YtfaikkhnlioajaaWZeros
import Derived.Test.YtfaikkhnlioajaaWFoot
import Derived.Test.YtfaikkhnlioajaaWKept
import Derived.Test.YtfaikkhnlioajaaWShare
import Derived.Test.YtfaikkhnlioajaaWN
import Derived.Test.YtfaikkhnlioajaaWFootNe
import Derived.Test.YtfaikkhnlioajaaWAt
import Derived.Test.YtfaikkhnlioajaaWEqStruct
import Derived.Test.YtfaikkhnlioajaaWRepsOne
import Derived.Test.YtfaikkhnlioajaaWInv
import Derived.Test.YtfaikkhnlioajaaWInvWords
import Derived.Test.YtfaikkhnlioajaaWGuard
import Derived.Test.YtfaikkhnlioajaaWNEv
import Derived.Test.YtfaikkhnlioajaaWMore
import Derived.Test.YtfaikkhnlioajaaBrE
import Derived.Test.YtfaikkhnlioajaaRd
namespace Go.Proofs.Ytfaikkhnlioajaa.BrF
open Go.RowKit Go.Proofs.YtfaikkhnlioajaaW.PrintWords Go.Proofs.YtfaikkhnlioajaaW.PrintLast Go.Proofs.YtfaikkhnlioajaaW.PrintMore 
attribute [local go_sem] max2_int min2_int max_two min_two max_three min_three max_four min_four
set_option linter.unusedVariables false
set_option linter.unusedSimpArgs false
open Go.Proofs.Ytfaikkhnlioajaa.QBase Go.Proofs.Ytfaikkhnlioajaa.Sch Go.Proofs.Ytfaikkhnlioajaa.Plc Go.Proofs.Ytfaikkhnlioajaa.Gd1 Go.Proofs.Ytfaikkhnlioajaa.Gd2 Go.Proofs.Ytfaikkhnlioajaa.Gd3 Go.Proofs.Ytfaikkhnlioajaa.Gd4 Go.Proofs.Ytfaikkhnlioajaa.BrP Go.Proofs.Ytfaikkhnlioajaa.Br1 Go.Proofs.Ytfaikkhnlioajaa.Br2 Go.Proofs.Ytfaikkhnlioajaa.Br3 Go.Proofs.Ytfaikkhnlioajaa.Br4 Go.Proofs.Ytfaikkhnlioajaa.Br5 Go.Proofs.Ytfaikkhnlioajaa.Br6 Go.Proofs.Ytfaikkhnlioajaa.Br7 Go.Proofs.Ytfaikkhnlioajaa.Br8 Go.Proofs.Ytfaikkhnlioajaa.Br9 Go.Proofs.Ytfaikkhnlioajaa.BrA Go.Proofs.Ytfaikkhnlioajaa.BrE Go.Maps
attribute [local go_sem] cellS1 frozenS1 cellS2 frozenS2 cellS3 frozenS3 cellS4 frozenS4 cellS5 frozenS5 cellS6 frozenS6
open Go.Shelf


theorem add_one (ad : Addr) (m : Nat) : ad.add (m + 1) = ⟨(ad.add m).block, (ad.add m).off + 1, none⟩ := by
  unfold Addr.add
  by_cases h : m = 0
  · subst h; simp
  · rw [if_neg (by omega), if_neg h]; simp only [Nat.add_assoc]
theorem cell_bel {w w' : World} (hb : Below w.heap.size w w') {a : Addr} {v : Value} (h : w.cell? a = some v) : w'.cell? a = some v := (hb.cell (World.block_lt_of_cell? w _ h)).trans h
set_option maxRecDepth 100000 in
set_option maxHeartbeats 16000000 in
theorem true_out (far a0 a1 b0 b1 : Int) (v3 v4 : Value) (w : World) (h : far < -1000000 ∨ 1000000 < far) :
    Calls Try.prog 6 #[.int .i64 far, .agg #[.int .u16 a0, .int .u16 a1], .agg #[.int .u16 b0, .int .u16 b1], v3, v4] w fun en w' => en = .returned (.bool true) ∧ Below w.heap.size w w' := by
  have HK := Aside0.mk usual_ok
  rcases h with h | h
  · have hb : decide (far < -1000000) = true := decide_eq_true h
    go_enter Try.func6, Try.ntmps6
    go_wp2_with (first | (go_at_call 23; go_loud (refine (carillonlaw24_usual.calls 3 0 400 1 16 400 400 1 2 8 _ rfl).mono ?_; rintro en w1 ⟨rfl, hb1⟩; have FA0 := blk_below (blk_alloc (blk_new w (.cells #[.int .u16 a0, .int .u16 a1] 53 (0, 0))) (.cells #[.int .u16 b0, .int .u16 b1] 53 (0, 0))) hb1; have FB0 := blk_below (blk_new (w.alloc (.cells #[.int .u16 a0, .int .u16 a1] 53 (0, 0))) (.cells #[.int .u16 b0, .int .u16 b1] 53 (0, 0))) hb1; rw [World.size_alloc] at FB0; have FA := Aside0.mk FA0; have FB := Aside0.mk FB0; clear FA0 FB0; have HB1 := Aside0.mk (below_step (below_alloc (below_alloc (Below.refl _ _) _) _) hb1); clear hb1)) | (go_at_call 22; go_loud (refine (tab_new 3 0 400 1 16 400 400 1 2 8 0 _ HK.out (by omega) (by omega)).mono ?_; rintro en w2 ⟨g, rfl, q1, q2⟩; have T2 := Aside0.mk q1; have B2 := Aside0.mk q2; have p0 : w2.cell? ⟨w.heap.size, 0, none⟩ = some (.int .u16 a0) := (blk_cell (blk_below FA.out q2) 0).trans rfl; have p1 : w2.cell? ⟨w.heap.size, 1, none⟩ = some (.int .u16 a1) := (blk_cell (blk_below FA.out q2) 1).trans rfl; clear q1 q2)) | (go_at_call 24; go_loud (refine (BrA.awake_ok _).mono ?_; rintro en w8 ⟨rfl, hb8⟩; have B8 := Aside0.mk (below_step B2.out hb8); clear hb8)))
    go_ret
    exact ⟨rfl, HB1.out.trans (B8.out.mono HB1.out.size)⟩
  · have hb0 : decide (far < -1000000) = false := decide_eq_false (by omega)
    have hb : decide (1000000 < far) = true := decide_eq_true h
    go_enter Try.func6, Try.ntmps6
    go_wp2_with (first | (go_at_call 23; go_loud (refine (carillonlaw24_usual.calls 3 0 400 1 16 400 400 1 2 8 _ rfl).mono ?_; rintro en w1 ⟨rfl, hb1⟩; have FA0 := blk_below (blk_alloc (blk_new w (.cells #[.int .u16 a0, .int .u16 a1] 53 (0, 0))) (.cells #[.int .u16 b0, .int .u16 b1] 53 (0, 0))) hb1; have FB0 := blk_below (blk_new (w.alloc (.cells #[.int .u16 a0, .int .u16 a1] 53 (0, 0))) (.cells #[.int .u16 b0, .int .u16 b1] 53 (0, 0))) hb1; rw [World.size_alloc] at FB0; have FA := Aside0.mk FA0; have FB := Aside0.mk FB0; clear FA0 FB0; have HB1 := Aside0.mk (below_step (below_alloc (below_alloc (Below.refl _ _) _) _) hb1); clear hb1)) | (go_at_call 22; go_loud (refine (tab_new 3 0 400 1 16 400 400 1 2 8 0 _ HK.out (by omega) (by omega)).mono ?_; rintro en w2 ⟨g, rfl, q1, q2⟩; have T2 := Aside0.mk q1; have B2 := Aside0.mk q2; have p0 : w2.cell? ⟨w.heap.size, 0, none⟩ = some (.int .u16 a0) := (blk_cell (blk_below FA.out q2) 0).trans rfl; have p1 : w2.cell? ⟨w.heap.size, 1, none⟩ = some (.int .u16 a1) := (blk_cell (blk_below FA.out q2) 1).trans rfl; clear q1 q2)) | (go_at_call 24; go_loud (refine (BrA.awake_ok _).mono ?_; rintro en w8 ⟨rfl, hb8⟩; have B8 := Aside0.mk (below_step B2.out hb8); clear hb8)))
    go_ret
    exact ⟨rfl, HB1.out.trans (B8.out.mono HB1.out.size)⟩
set_option maxRecDepth 100000 in
set_option maxHeartbeats 16000000 in
theorem true_in (far a0 a1 b0 b1 : Int) (A3 A4 : Option Addr) (c3 c4 n3 n4 : Nat) (x3 x4 : Nat → Nat → Int) (w : World) (h0 : -1000000 ≤ far) (h1 : far ≤ 1000000) (a00 : 0 ≤ a0) (a01 : a0 ≤ 65535) (a10 : 0 ≤ a1) (a11 : a1 ≤ 65535) (b00 : 0 ≤ b0) (b01 : b0 ≤ 65535) (b10 : 0 ≤ b1) (b11 : b1 ≤ 65535)
    (hr3 : Rd.IntsAt w A3 .i8 2 n3 x3) (hr4 : Rd.IntsAt w A4 .i8 2 n4 x4) (hm3 : n3 ≤ maxLen) (hm4 : n4 ≤ maxLen) (hw3 : ∀ i j, i < n3 → j < 2 → -128 ≤ x3 i j ∧ x3 i j ≤ 127) (hw4 : ∀ i j, i < n4 → j < 2 → -128 ≤ x4 i j ∧ x4 i j ≤ 127) :
    Calls Try.prog 6 #[.int .i64 far, .agg #[.int .u16 a0, .int .u16 a1], .agg #[.int .u16 b0, .int .u16 b1], .slice A3 n3 c3, .slice A4 n4 c4] w fun en w' => en = .returned (.bool true) ∧ Below w.heap.size w w' := by
  have HK := Aside0.mk usual_ok
  have HR3 := Aside0.mk hr3
  have HR4 := Aside0.mk hr4
  have HW3 := Aside0.mk hw3
  have HW4 := Aside0.mk hw4
  unfold maxLen at hm3 hm4
  clear hr3 hr4 hw3 hw4
  have f1 : decide (far < -1000000) = false := decide_eq_false (by omega)
  have f2 : decide (1000000 < far) = false := decide_eq_false (by omega)
  go_enter Try.func6, Try.ntmps6
  go_upto_region 6 with (first | (go_at_call 23; go_loud (refine (carillonlaw24_usual.calls 3 0 400 1 16 400 400 1 2 8 _ rfl).mono ?_; rintro en w1 ⟨rfl, hb1⟩; have FA0 := blk_below (blk_alloc (blk_new w (.cells #[.int .u16 a0, .int .u16 a1] 53 (0, 0))) (.cells #[.int .u16 b0, .int .u16 b1] 53 (0, 0))) hb1; have FB0 := blk_below (blk_new (w.alloc (.cells #[.int .u16 a0, .int .u16 a1] 53 (0, 0))) (.cells #[.int .u16 b0, .int .u16 b1] 53 (0, 0))) hb1; rw [World.size_alloc] at FB0; have FA := Aside0.mk FA0; have FB := Aside0.mk FB0; clear FA0 FB0; have HB1 := Aside0.mk (below_step (below_alloc (below_alloc (Below.refl _ _) _) _) hb1); clear hb1)) | (go_at_call 22; go_loud (refine (tab_new 3 0 400 1 16 400 400 1 2 8 0 _ HK.out (by omega) (by omega)).mono ?_; rintro en w2 ⟨g, rfl, q1, q2⟩; have T2 := Aside0.mk q1; have B2 := Aside0.mk q2; have p0 : w2.cell? ⟨w.heap.size, 0, none⟩ = some (.int .u16 a0) := (blk_cell (blk_below FA.out q2) 0).trans rfl; have p1 : w2.cell? ⟨w.heap.size, 1, none⟩ = some (.int .u16 a1) := (blk_cell (blk_below FA.out q2) 1).trans rfl; clear q1 q2)))
  obtain ⟨lo, hlo⟩ : ∃ lo, 2000000 + far - 2000000 - a0 = lo := ⟨_, rfl⟩
  obtain ⟨hi, hhi⟩ : ∃ hi, 2000000 + far - 2000000 + a1 = hi := ⟨_, rfl⟩
  have l1 : lo ≤ far := by omega
  have l2 : far ≤ hi := by omega
  have l3 : -2000000 ≤ lo := by omega
  have l4 : hi ≤ 2000000 := by omega
  have HRR : Aside0 (R lo hi) := ⟨⟨by omega, by omega, by omega⟩⟩
  have HP1 := Aside0.mk (put_first lo hi HRR.out)
  have HO1 := Aside0.mk (one_ok HRR.out (a := 2000000) (by omega) (by omega))
  have C1 : Aside0 (∀ W, Tab w1 W g 3 0 400 1 16 400 400 1 2 8 0 (fun _ => none) 0 → Below w1.heap.size w1 W → Calls Try.prog 25 #[.pointer (some ⟨g, 0, none⟩), .int .i64 1, .agg #[.int .i64 (2000000 + far - 2000000 - a0), .int .i64 (2000000 + far - 2000000 + a1)], .int .i64 2000000] W fun en w' => en = .returned (.int .i64 0) ∧ Tab w1 w' g 3 0 400 1 16 400 400 1 2 8 0 (one lo hi 2000000) 1 ∧ Below w1.heap.size w1 w') := ⟨fun W hT hB => by rw [hlo, hhi]; exact (tab_put g 3 0 400 1 16 400 400 1 2 8 0 1 lo hi 2000000 0 _ w1 W _ 0 hT hB (fun _ _ _ _ h => by cases h) (by omega) HK.out HP1.out).mono fun en w' ⟨e1, e2, e3, e4⟩ => ⟨e1, e2, e3⟩⟩
  clear hlo hhi
  go_upto_region 7 with (first | (go_at_call 25; go_loud (refine (C1.out _ T2.out B2.out).mono ?_; rintro en w3 ⟨rfl, q1, q2⟩; have T3 := Aside0.mk q1; have B3 := Aside0.mk q2; clear q1 q2)))
  go_wp2
  have HB3 : Aside0 (Below w.heap.size w w3) := ⟨HB1.out.trans (B3.out.mono HB1.out.size)⟩
  go_loop [13, 14, 15] (fun vo vp vi => ∃ (k : Nat) (o p : Int), vo = .int .i64 o ∧ vp = .int .i64 p ∧ vi = .int .i64 k ∧ k ≤ 30 ∧ k ≤ n3 ∧ 2000000 + 97 * k ≤ o ∧ o ≤ 2000000 + 103 * k ∧ 2000000 + far + 97 * k ≤ p ∧ p ≤ 2000000 + far + 103 * k) (fun _ _ vi => 30 - (intOf vi).toNat)
  case atStart => exact ⟨0, 2000000, 2000000 + far, rfl, rfl, rfl, by omega, by omega, by omega, by omega, by omega, by omega⟩
  case round =>
    obtain ⟨k, o, p, rfl, rfl, rfl, k30, kn, o0, o1, q0, q1⟩ := hrel
    by_cases c1 : k < n3
    · have c1b : decide ((k : Int) < (n3 : Int)) = true := decide_eq_true (by omega)
      by_cases c2 : k < 30
      · have c2b : decide ((k : Int) < 30) = true := decide_eq_true (by omega)
        obtain ⟨ad, e0, hx⟩ := HR3.out k c1
        subst e0
        have hw0 := HW3.out k 0 c1 (by omega)
        have hw1 := HW3.out k 1 c1 (by omega)
        have hx0 := hx 0 (by omega)
        have hx1 := hx 1 (by omega)
        rw [add_one] at hx1
        have e0 : w3.cell? (ad.add (k * 2)) = some (.int .i8 (x3 k 0)) := cell_bel HB3.out hx0
        have e1 := cell_bel HB3.out hx1
        obtain ⟨s0, hs0⟩ : ∃ s0, x3 k 0 = s0 := ⟨_, rfl⟩
        obtain ⟨s1, hs1⟩ : ∃ s1, x3 k 1 = s1 := ⟨_, rfl⟩
        rw [hs0] at e0 hw0
        rw [hs1] at e1 hw1
        obtain ⟨s00, s01⟩ := hw0
        obtain ⟨s10, s11⟩ := hw1
        clear hx hx0 hx1 hs0 hs1
        go_wp2
        all_goals
          go_round
          case rel => exact ⟨k + 1, _, _, rfl, rfl, by go_num, by omega, by omega, by omega, by omega, by omega, by omega⟩
          case measure => simp [intOf]; omega
      · have c2b : decide ((k : Int) < 30) = false := decide_eq_false (by omega)
        have b30 : k ≤ 30 := k30
        have fb0 : w3.cell? ⟨w.heap.size + 1, 0, none⟩ = some (.int .u16 b0) := (blk_cell (blk_below FB.out B3.out) 0).trans rfl
        have fb1 : w3.cell? ⟨w.heap.size + 1, 1, none⟩ = some (.int .u16 b1) := (blk_cell (blk_below FB.out B3.out) 1).trans rfl
        obtain ⟨x, y, hp2, m1, m2, m3, m4⟩ := put_second lo hi (p - o - b0) (p - o + b1) o k (o - 2000000) (p - 2000000 - far) far (p - o) l3 l4 l1 l2 (by omega) (by omega) (by omega) (by omega) (by omega) (by omega) (by omega) (by omega) (by omega) (by omega) (by omega) (by omega)
        have HO2 := Aside0.mk (one_ok (lo := x) (hi := y) (a := o) ⟨by omega, by omega, by omega⟩ (by omega) (by omega))
        have C2 : Aside0 (∀ W, Tab w1 W g 3 0 400 1 16 400 400 1 2 8 0 (one lo hi 2000000) 1 → Below w1.heap.size w1 W → Calls Try.prog 25 #[.pointer (some ⟨g, 0, none⟩), .int .i64 1, .agg #[.int .i64 (p - o - b0), .int .i64 (p - o + b1)], .int .i64 o] W fun en w' => en = .returned (.int .i64 0) ∧ Tab w1 w' g 3 0 400 1 16 400 400 1 2 8 0 (one x y o) 2 ∧ Below w1.heap.size w1 w') := ⟨fun W hT hB => (tab_put g 3 0 400 1 16 400 400 1 2 8 0 1 (p - o - b0) (p - o + b1) o 0 _ w1 W _ 1 hT hB HO1.out (by omega) HK.out hp2).mono fun en w' ⟨e1, e2, e3, e4⟩ => ⟨e1, e2, e3⟩⟩
        clear hp2
        go_upto_region 13 with (first | (go_at_call 25; go_loud (refine (C2.out _ T3.out B3.out).mono ?_; rintro en w4 ⟨rfl, z1, z2⟩; have T4 := Aside0.mk z1; have B4 := Aside0.mk z2; clear z1 z2)))
        go_wp2
        have HB4 : Aside0 (Below w.heap.size w w4) := ⟨HB1.out.trans (B4.out.mono HB1.out.size)⟩
        go_loop [13, 14, 16] (fun vo vp vi => ∃ (k : Nat) (o' p' : Int), vo = .int .i64 o' ∧ vp = .int .i64 p' ∧ vi = .int .i64 k ∧ k ≤ 60 ∧ k ≤ n4 ∧ o + 97 * k ≤ o' ∧ o' ≤ o + 103 * k ∧ p + 97 * k ≤ p' ∧ p' ≤ p + 103 * k) (fun _ _ vi => 60 - (intOf vi).toNat)
        case atStart => exact ⟨0, o, p, rfl, rfl, rfl, by omega, by omega, by omega, by omega, by omega, by omega⟩
        case round =>
          clear c1b c1 k30 kn
          (try clear c2b c2)
          obtain ⟨k, o', p', rfl, rfl, rfl, k30, kn, o0', o1', q0', q1'⟩ := hrel
          by_cases c1 : k < n4
          · have c1b : decide ((k : Int) < (n4 : Int)) = true := decide_eq_true (by omega)
            by_cases c2 : k < 60
            · have c2b : decide ((k : Int) < 60) = true := decide_eq_true (by omega)
              obtain ⟨ad, e0, hx⟩ := HR4.out k c1
              subst e0
              have hw0 := HW4.out k 0 c1 (by omega)
              have hw1 := HW4.out k 1 c1 (by omega)
              have hx0 := hx 0 (by omega)
              have hx1 := hx 1 (by omega)
              rw [add_one] at hx1
              have e0 : w4.cell? (ad.add (k * 2)) = some (.int .i8 (x4 k 0)) := cell_bel HB4.out hx0
              have e1 := cell_bel HB4.out hx1
              obtain ⟨s0, hs0⟩ : ∃ s0, x4 k 0 = s0 := ⟨_, rfl⟩
              obtain ⟨s1, hs1⟩ : ∃ s1, x4 k 1 = s1 := ⟨_, rfl⟩
              rw [hs0] at e0 hw0
              rw [hs1] at e1 hw1
              obtain ⟨s00, s01⟩ := hw0
              obtain ⟨s10, s11⟩ := hw1
              clear hx hx0 hx1 hs0 hs1
              go_wp2
              all_goals
                go_round
                case rel => exact ⟨k + 1, _, _, rfl, rfl, by go_num, by omega, by omega, by omega, by omega, by omega, by omega⟩
                case measure => simp [intOf]; omega
            · have c2b : decide ((k : Int) < 60) = false := decide_eq_false (by omega)
              have b60 : k ≤ 60 := k30
              have hA := at_one x y o o' k (o' - o) (p' - p) (p - o) m3 m4 (by omega) (by omega) m1 m2 (by omega) (by omega) (by omega) (by omega) (by omega) (by omega) (by omega)
              rcases hA with ⟨hA, hlate⟩ | ⟨X, Y, hA, hX, hY, hX2, hY2⟩
              · have HA := Aside0.mk hA
                have hn4 : decide ((20 : Int) < (n4 : Int)) = true := decide_eq_true (by omega)
                clear hA
                go_wp2_with (first | (go_at_call 26; go_loud (refine (tab_at g 3 0 400 1 16 400 400 1 2 8 0 1 o' 0 0 6 _ _ _ 2 T4.out HO2.out HK.out HA.out).mono ?_; rintro en w5 ⟨rfl, z1⟩; have B5 := Aside0.mk (below_step B4.out z1); clear z1)) | (go_at_call 24; go_loud (refine (BrA.awake_ok _).mono ?_; rintro en w8 ⟨rfl, hb8⟩; have B8 := Aside0.mk (below_step (below_alloc B5.out _) hb8); clear hb8)))
                go_ret
                exact ⟨rfl, HB1.out.trans (B8.out.mono HB1.out.size)⟩
              · have HA := Aside0.mk hA
                obtain ⟨nm, hnm⟩ : ∃ nm, mx (o' + Y) 0 = nm := ⟨_, rfl⟩
                have hnm1 : p' ≤ nm := by rw [← hnm]; unfold mx; split <;> omega
                have hnmb : decide (p' ≤ nm) = true := decide_eq_true hnm1
                have HM : Aside0 (mostF (X, Y, 0) o' = (nm, 0)) := ⟨by unfold mostF; rw [if_pos rfl, ← hnm]⟩
                have HH : Aside0 (ival_Holds.f X Y (p' - o') = some true) := ⟨by rw [holds_eq, decide_eq_true]; exact ⟨⟨by omega, by omega, by omega⟩, by omega, by omega⟩⟩
                clear hA hnm
                go_wp2_with (first | (go_at_call 26; go_loud (refine (tab_at g 3 0 400 1 16 400 400 1 2 8 0 1 o' X Y 0 _ _ _ 2 T4.out HO2.out HK.out HA.out).mono ?_; rintro en w5 ⟨rfl, z1⟩; have T5 := Aside0.mk ((T4.out.below z1).alloc (.cells #[.int .i64 X, .int .i64 Y] 61)); have B5 := Aside0.mk (below_step B4.out z1); have XC := Aside0.mk (blk_new w5 (.cells #[.int .i64 X, .int .i64 Y] 61 (0, 0))); clear z1)) | (go_at_call 27; go_loud (refine (tab_most g 3 0 400 1 16 400 400 1 2 8 0 1 o' X Y 0 nm 0 _ _ _ 2 T5.out HO2.out HK.out HA.out HM.out).mono ?_; rintro en w6 ⟨rfl, z1⟩; have B6 := Aside0.mk (below_step (below_alloc B5.out _) z1); have xc := blk_below XC.out z1; have xc0 : w6.cell? ⟨w5.heap.size, 0, none⟩ = some (.int .i64 X) := (blk_cell xc 0).trans rfl; have xc1 : w6.cell? ⟨w5.heap.size, 1, none⟩ = some (.int .i64 Y) := (blk_cell xc 1).trans rfl; clear z1 xc)) | (go_at_call 28; go_loud (refine (ival_Holds.calls X Y (p' - o') true _ HH.out).mono ?_; rintro en w7 ⟨rfl, z1⟩; have B7 := Aside0.mk (below_step B6.out z1); clear z1)) | (go_at_call 24; go_loud (refine (BrA.awake_ok _).mono ?_; rintro en w8 ⟨rfl, hb8⟩; have B8 := Aside0.mk (below_step B7.out hb8); clear hb8)))
                go_ret
                exact ⟨rfl, HB1.out.trans (B8.out.mono HB1.out.size)⟩
          · have c1b : decide ((k : Int) < (n4 : Int)) = false := decide_eq_false (by omega)
            have b60 : k ≤ 60 := k30
            have hA := at_one x y o o' k (o' - o) (p' - p) (p - o) m3 m4 (by omega) (by omega) m1 m2 (by omega) (by omega) (by omega) (by omega) (by omega) (by omega) (by omega)
            rcases hA with ⟨hA, hlate⟩ | ⟨X, Y, hA, hX, hY, hX2, hY2⟩
            · have HA := Aside0.mk hA
              have hn4 : decide ((20 : Int) < (n4 : Int)) = true := decide_eq_true (by omega)
              clear hA
              go_wp2_with (first | (go_at_call 26; go_loud (refine (tab_at g 3 0 400 1 16 400 400 1 2 8 0 1 o' 0 0 6 _ _ _ 2 T4.out HO2.out HK.out HA.out).mono ?_; rintro en w5 ⟨rfl, z1⟩; have B5 := Aside0.mk (below_step B4.out z1); clear z1)) | (go_at_call 24; go_loud (refine (BrA.awake_ok _).mono ?_; rintro en w8 ⟨rfl, hb8⟩; have B8 := Aside0.mk (below_step (below_alloc B5.out _) hb8); clear hb8)))
              go_ret
              exact ⟨rfl, HB1.out.trans (B8.out.mono HB1.out.size)⟩
            · have HA := Aside0.mk hA
              obtain ⟨nm, hnm⟩ : ∃ nm, mx (o' + Y) 0 = nm := ⟨_, rfl⟩
              have hnm1 : p' ≤ nm := by rw [← hnm]; unfold mx; split <;> omega
              have hnmb : decide (p' ≤ nm) = true := decide_eq_true hnm1
              have HM : Aside0 (mostF (X, Y, 0) o' = (nm, 0)) := ⟨by unfold mostF; rw [if_pos rfl, ← hnm]⟩
              have HH : Aside0 (ival_Holds.f X Y (p' - o') = some true) := ⟨by rw [holds_eq, decide_eq_true]; exact ⟨⟨by omega, by omega, by omega⟩, by omega, by omega⟩⟩
              clear hA hnm
              go_wp2_with (first | (go_at_call 26; go_loud (refine (tab_at g 3 0 400 1 16 400 400 1 2 8 0 1 o' X Y 0 _ _ _ 2 T4.out HO2.out HK.out HA.out).mono ?_; rintro en w5 ⟨rfl, z1⟩; have T5 := Aside0.mk ((T4.out.below z1).alloc (.cells #[.int .i64 X, .int .i64 Y] 61)); have B5 := Aside0.mk (below_step B4.out z1); have XC := Aside0.mk (blk_new w5 (.cells #[.int .i64 X, .int .i64 Y] 61 (0, 0))); clear z1)) | (go_at_call 27; go_loud (refine (tab_most g 3 0 400 1 16 400 400 1 2 8 0 1 o' X Y 0 nm 0 _ _ _ 2 T5.out HO2.out HK.out HA.out HM.out).mono ?_; rintro en w6 ⟨rfl, z1⟩; have B6 := Aside0.mk (below_step (below_alloc B5.out _) z1); have xc := blk_below XC.out z1; have xc0 : w6.cell? ⟨w5.heap.size, 0, none⟩ = some (.int .i64 X) := (blk_cell xc 0).trans rfl; have xc1 : w6.cell? ⟨w5.heap.size, 1, none⟩ = some (.int .i64 Y) := (blk_cell xc 1).trans rfl; clear z1 xc)) | (go_at_call 28; go_loud (refine (ival_Holds.calls X Y (p' - o') true _ HH.out).mono ?_; rintro en w7 ⟨rfl, z1⟩; have B7 := Aside0.mk (below_step B6.out z1); clear z1)) | (go_at_call 24; go_loud (refine (BrA.awake_ok _).mono ?_; rintro en w8 ⟨rfl, hb8⟩; have B8 := Aside0.mk (below_step B7.out hb8); clear hb8)))
              go_ret
              exact ⟨rfl, HB1.out.trans (B8.out.mono HB1.out.size)⟩
    · have c1b : decide ((k : Int) < (n3 : Int)) = false := decide_eq_false (by omega)
      have b30 : k ≤ 30 := k30
      have fb0 : w3.cell? ⟨w.heap.size + 1, 0, none⟩ = some (.int .u16 b0) := (blk_cell (blk_below FB.out B3.out) 0).trans rfl
      have fb1 : w3.cell? ⟨w.heap.size + 1, 1, none⟩ = some (.int .u16 b1) := (blk_cell (blk_below FB.out B3.out) 1).trans rfl
      obtain ⟨x, y, hp2, m1, m2, m3, m4⟩ := put_second lo hi (p - o - b0) (p - o + b1) o k (o - 2000000) (p - 2000000 - far) far (p - o) l3 l4 l1 l2 (by omega) (by omega) (by omega) (by omega) (by omega) (by omega) (by omega) (by omega) (by omega) (by omega) (by omega) (by omega)
      have HO2 := Aside0.mk (one_ok (lo := x) (hi := y) (a := o) ⟨by omega, by omega, by omega⟩ (by omega) (by omega))
      have C2 : Aside0 (∀ W, Tab w1 W g 3 0 400 1 16 400 400 1 2 8 0 (one lo hi 2000000) 1 → Below w1.heap.size w1 W → Calls Try.prog 25 #[.pointer (some ⟨g, 0, none⟩), .int .i64 1, .agg #[.int .i64 (p - o - b0), .int .i64 (p - o + b1)], .int .i64 o] W fun en w' => en = .returned (.int .i64 0) ∧ Tab w1 w' g 3 0 400 1 16 400 400 1 2 8 0 (one x y o) 2 ∧ Below w1.heap.size w1 w') := ⟨fun W hT hB => (tab_put g 3 0 400 1 16 400 400 1 2 8 0 1 (p - o - b0) (p - o + b1) o 0 _ w1 W _ 1 hT hB HO1.out (by omega) HK.out hp2).mono fun en w' ⟨e1, e2, e3, e4⟩ => ⟨e1, e2, e3⟩⟩
      clear hp2
      go_upto_region 13 with (first | (go_at_call 25; go_loud (refine (C2.out _ T3.out B3.out).mono ?_; rintro en w4 ⟨rfl, z1, z2⟩; have T4 := Aside0.mk z1; have B4 := Aside0.mk z2; clear z1 z2)))
      go_wp2
      have HB4 : Aside0 (Below w.heap.size w w4) := ⟨HB1.out.trans (B4.out.mono HB1.out.size)⟩
      go_loop [13, 14, 16] (fun vo vp vi => ∃ (k : Nat) (o' p' : Int), vo = .int .i64 o' ∧ vp = .int .i64 p' ∧ vi = .int .i64 k ∧ k ≤ 60 ∧ k ≤ n4 ∧ o + 97 * k ≤ o' ∧ o' ≤ o + 103 * k ∧ p + 97 * k ≤ p' ∧ p' ≤ p + 103 * k) (fun _ _ vi => 60 - (intOf vi).toNat)
      case atStart => exact ⟨0, o, p, rfl, rfl, rfl, by omega, by omega, by omega, by omega, by omega, by omega⟩
      case round =>
        clear c1b c1 k30 kn
        (try clear c2b c2)
        obtain ⟨k, o', p', rfl, rfl, rfl, k30, kn, o0', o1', q0', q1'⟩ := hrel
        by_cases c1 : k < n4
        · have c1b : decide ((k : Int) < (n4 : Int)) = true := decide_eq_true (by omega)
          by_cases c2 : k < 60
          · have c2b : decide ((k : Int) < 60) = true := decide_eq_true (by omega)
            obtain ⟨ad, e0, hx⟩ := HR4.out k c1
            subst e0
            have hw0 := HW4.out k 0 c1 (by omega)
            have hw1 := HW4.out k 1 c1 (by omega)
            have hx0 := hx 0 (by omega)
            have hx1 := hx 1 (by omega)
            rw [add_one] at hx1
            have e0 : w4.cell? (ad.add (k * 2)) = some (.int .i8 (x4 k 0)) := cell_bel HB4.out hx0
            have e1 := cell_bel HB4.out hx1
            obtain ⟨s0, hs0⟩ : ∃ s0, x4 k 0 = s0 := ⟨_, rfl⟩
            obtain ⟨s1, hs1⟩ : ∃ s1, x4 k 1 = s1 := ⟨_, rfl⟩
            rw [hs0] at e0 hw0
            rw [hs1] at e1 hw1
            obtain ⟨s00, s01⟩ := hw0
            obtain ⟨s10, s11⟩ := hw1
            clear hx hx0 hx1 hs0 hs1
            go_wp2
            all_goals
              go_round
              case rel => exact ⟨k + 1, _, _, rfl, rfl, by go_num, by omega, by omega, by omega, by omega, by omega, by omega⟩
              case measure => simp [intOf]; omega
          · have c2b : decide ((k : Int) < 60) = false := decide_eq_false (by omega)
            have b60 : k ≤ 60 := k30
            have hA := at_one x y o o' k (o' - o) (p' - p) (p - o) m3 m4 (by omega) (by omega) m1 m2 (by omega) (by omega) (by omega) (by omega) (by omega) (by omega) (by omega)
            rcases hA with ⟨hA, hlate⟩ | ⟨X, Y, hA, hX, hY, hX2, hY2⟩
            · have HA := Aside0.mk hA
              have hn4 : decide ((20 : Int) < (n4 : Int)) = true := decide_eq_true (by omega)
              clear hA
              go_wp2_with (first | (go_at_call 26; go_loud (refine (tab_at g 3 0 400 1 16 400 400 1 2 8 0 1 o' 0 0 6 _ _ _ 2 T4.out HO2.out HK.out HA.out).mono ?_; rintro en w5 ⟨rfl, z1⟩; have B5 := Aside0.mk (below_step B4.out z1); clear z1)) | (go_at_call 24; go_loud (refine (BrA.awake_ok _).mono ?_; rintro en w8 ⟨rfl, hb8⟩; have B8 := Aside0.mk (below_step (below_alloc B5.out _) hb8); clear hb8)))
              go_ret
              exact ⟨rfl, HB1.out.trans (B8.out.mono HB1.out.size)⟩
            · have HA := Aside0.mk hA
              obtain ⟨nm, hnm⟩ : ∃ nm, mx (o' + Y) 0 = nm := ⟨_, rfl⟩
              have hnm1 : p' ≤ nm := by rw [← hnm]; unfold mx; split <;> omega
              have hnmb : decide (p' ≤ nm) = true := decide_eq_true hnm1
              have HM : Aside0 (mostF (X, Y, 0) o' = (nm, 0)) := ⟨by unfold mostF; rw [if_pos rfl, ← hnm]⟩
              have HH : Aside0 (ival_Holds.f X Y (p' - o') = some true) := ⟨by rw [holds_eq, decide_eq_true]; exact ⟨⟨by omega, by omega, by omega⟩, by omega, by omega⟩⟩
              clear hA hnm
              go_wp2_with (first | (go_at_call 26; go_loud (refine (tab_at g 3 0 400 1 16 400 400 1 2 8 0 1 o' X Y 0 _ _ _ 2 T4.out HO2.out HK.out HA.out).mono ?_; rintro en w5 ⟨rfl, z1⟩; have T5 := Aside0.mk ((T4.out.below z1).alloc (.cells #[.int .i64 X, .int .i64 Y] 61)); have B5 := Aside0.mk (below_step B4.out z1); have XC := Aside0.mk (blk_new w5 (.cells #[.int .i64 X, .int .i64 Y] 61 (0, 0))); clear z1)) | (go_at_call 27; go_loud (refine (tab_most g 3 0 400 1 16 400 400 1 2 8 0 1 o' X Y 0 nm 0 _ _ _ 2 T5.out HO2.out HK.out HA.out HM.out).mono ?_; rintro en w6 ⟨rfl, z1⟩; have B6 := Aside0.mk (below_step (below_alloc B5.out _) z1); have xc := blk_below XC.out z1; have xc0 : w6.cell? ⟨w5.heap.size, 0, none⟩ = some (.int .i64 X) := (blk_cell xc 0).trans rfl; have xc1 : w6.cell? ⟨w5.heap.size, 1, none⟩ = some (.int .i64 Y) := (blk_cell xc 1).trans rfl; clear z1 xc)) | (go_at_call 28; go_loud (refine (ival_Holds.calls X Y (p' - o') true _ HH.out).mono ?_; rintro en w7 ⟨rfl, z1⟩; have B7 := Aside0.mk (below_step B6.out z1); clear z1)) | (go_at_call 24; go_loud (refine (BrA.awake_ok _).mono ?_; rintro en w8 ⟨rfl, hb8⟩; have B8 := Aside0.mk (below_step B7.out hb8); clear hb8)))
              go_ret
              exact ⟨rfl, HB1.out.trans (B8.out.mono HB1.out.size)⟩
        · have c1b : decide ((k : Int) < (n4 : Int)) = false := decide_eq_false (by omega)
          have b60 : k ≤ 60 := k30
          have hA := at_one x y o o' k (o' - o) (p' - p) (p - o) m3 m4 (by omega) (by omega) m1 m2 (by omega) (by omega) (by omega) (by omega) (by omega) (by omega) (by omega)
          rcases hA with ⟨hA, hlate⟩ | ⟨X, Y, hA, hX, hY, hX2, hY2⟩
          · have HA := Aside0.mk hA
            have hn4 : decide ((20 : Int) < (n4 : Int)) = true := decide_eq_true (by omega)
            clear hA
            go_wp2_with (first | (go_at_call 26; go_loud (refine (tab_at g 3 0 400 1 16 400 400 1 2 8 0 1 o' 0 0 6 _ _ _ 2 T4.out HO2.out HK.out HA.out).mono ?_; rintro en w5 ⟨rfl, z1⟩; have B5 := Aside0.mk (below_step B4.out z1); clear z1)) | (go_at_call 24; go_loud (refine (BrA.awake_ok _).mono ?_; rintro en w8 ⟨rfl, hb8⟩; have B8 := Aside0.mk (below_step (below_alloc B5.out _) hb8); clear hb8)))
            go_ret
            exact ⟨rfl, HB1.out.trans (B8.out.mono HB1.out.size)⟩
          · have HA := Aside0.mk hA
            obtain ⟨nm, hnm⟩ : ∃ nm, mx (o' + Y) 0 = nm := ⟨_, rfl⟩
            have hnm1 : p' ≤ nm := by rw [← hnm]; unfold mx; split <;> omega
            have hnmb : decide (p' ≤ nm) = true := decide_eq_true hnm1
            have HM : Aside0 (mostF (X, Y, 0) o' = (nm, 0)) := ⟨by unfold mostF; rw [if_pos rfl, ← hnm]⟩
            have HH : Aside0 (ival_Holds.f X Y (p' - o') = some true) := ⟨by rw [holds_eq, decide_eq_true]; exact ⟨⟨by omega, by omega, by omega⟩, by omega, by omega⟩⟩
            clear hA hnm
            go_wp2_with (first | (go_at_call 26; go_loud (refine (tab_at g 3 0 400 1 16 400 400 1 2 8 0 1 o' X Y 0 _ _ _ 2 T4.out HO2.out HK.out HA.out).mono ?_; rintro en w5 ⟨rfl, z1⟩; have T5 := Aside0.mk ((T4.out.below z1).alloc (.cells #[.int .i64 X, .int .i64 Y] 61)); have B5 := Aside0.mk (below_step B4.out z1); have XC := Aside0.mk (blk_new w5 (.cells #[.int .i64 X, .int .i64 Y] 61 (0, 0))); clear z1)) | (go_at_call 27; go_loud (refine (tab_most g 3 0 400 1 16 400 400 1 2 8 0 1 o' X Y 0 nm 0 _ _ _ 2 T5.out HO2.out HK.out HA.out HM.out).mono ?_; rintro en w6 ⟨rfl, z1⟩; have B6 := Aside0.mk (below_step (below_alloc B5.out _) z1); have xc := blk_below XC.out z1; have xc0 : w6.cell? ⟨w5.heap.size, 0, none⟩ = some (.int .i64 X) := (blk_cell xc 0).trans rfl; have xc1 : w6.cell? ⟨w5.heap.size, 1, none⟩ = some (.int .i64 Y) := (blk_cell xc 1).trans rfl; clear z1 xc)) | (go_at_call 28; go_loud (refine (ival_Holds.calls X Y (p' - o') true _ HH.out).mono ?_; rintro en w7 ⟨rfl, z1⟩; have B7 := Aside0.mk (below_step B6.out z1); clear z1)) | (go_at_call 24; go_loud (refine (BrA.awake_ok _).mono ?_; rintro en w8 ⟨rfl, hb8⟩; have B8 := Aside0.mk (below_step B7.out hb8); clear hb8)))
            go_ret
            exact ⟨rfl, HB1.out.trans (B8.out.mono HB1.out.size)⟩

theorem true_any (far a0 a1 b0 b1 : Int) (A3 A4 : Option Addr) (c3 c4 n3 n4 : Nat) (x3 x4 : Nat → Nat → Int) (w : World) (ha0 : 0 ≤ a0 ∧ a0 ≤ 65535) (ha1 : 0 ≤ a1 ∧ a1 ≤ 65535) (hb0 : 0 ≤ b0 ∧ b0 ≤ 65535) (hb1 : 0 ≤ b1 ∧ b1 ≤ 65535)
    (hr3 : Rd.IntsAt w A3 .i8 2 n3 x3) (hr4 : Rd.IntsAt w A4 .i8 2 n4 x4) (hm3 : n3 ≤ maxLen) (hm4 : n4 ≤ maxLen) (hw3 : ∀ i j, i < n3 → j < 2 → -128 ≤ x3 i j ∧ x3 i j ≤ 127) (hw4 : ∀ i j, i < n4 → j < 2 → -128 ≤ x4 i j ∧ x4 i j ≤ 127) :
    Calls Try.prog 6 #[.int .i64 far, .agg #[.int .u16 a0, .int .u16 a1], .agg #[.int .u16 b0, .int .u16 b1], .slice A3 n3 c3, .slice A4 n4 c4] w fun en w' => en = .returned (.bool true) ∧ Below w.heap.size w w' := by
  by_cases h0 : far < -1000000
  · exact true_out far a0 a1 b0 b1 _ _ w (Or.inl h0)
  · by_cases h1 : 1000000 < far
    · exact true_out far a0 a1 b0 b1 _ _ w (Or.inr h1)
    · exact true_in far a0 a1 b0 b1 A3 A4 c3 c4 n3 n4 x3 x4 w (by omega) (by omega) ha0.1 ha0.2 ha1.1 ha1.2 hb0.1 hb0.2 hb1.1 hb1.2 hr3 hr4 hm3 hm4 hw3 hw4
end Go.Proofs.Ytfaikkhnlioajaa.BrF
