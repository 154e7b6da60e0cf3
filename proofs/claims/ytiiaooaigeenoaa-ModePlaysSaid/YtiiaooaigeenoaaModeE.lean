/- Any acts of a node. -/
import Derived.Test.YtiiaooaigeenoaaProg
import Derived.Below
import Derived.Deep.Draws
import Derived.Deep.AppendLies
import Derived.Maps.AppendAt
import Derived.OwnWalk
import Derived.Laws.BytesArg
import Derived.Laws.MakeOwn
import Derived.Laws.OwnMore
import Derived.Deep.OwnRows
import Derived.Tactics
import Derived.Lib.ConvBytes
import Derived.Laws.Slices
import Derived.WalkKit
import Derived.KernelRfl
import Derived.RowKit3
import Derived.Deep.LoopGhost
import Derived.Deep.QuietTactic
import Derived.BigQuiet
import Derived.WideLaws
import Derived.Deep.DeepCutAuto
import Derived.Deep.CutBlock
import Derived.Deep.RegionHeld3
import Derived.Laws.Rows
import Derived.Lib.AppendStr
import Derived.ArgAppend
import Derived.Laws.IdiomCopy
import Derived.OrdersHeld
import Derived.Laws.BitsLemmas
import Derived.RowKit
import Derived.RegionTactic
import Derived.ChangeAlike
import Derived.Outline
import Derived.LoopTactic
import Derived.WalkSpells
import Derived.WalkLawsBesides
import Derived.Lib.Hide
import Derived.StillTailTactics
import Derived.Deep.RegionWith
import Derived.Deep.RegionLaw
import Derived.Deep.DeepFit
import Derived.Deep.DeepMust
import Derived.Test.YtiiaooaigeenoaaWWords
import Derived.Test.YtiiaooaigeenoaaWLast
import Derived.Test.YtiiaooaigeenoaaWTab
import Derived.Test.YtiiaooaigeenoaaWFour
import Derived.Test.YtiiaooaigeenoaaWQPut
import Derived.Test.YtiiaooaigeenoaaWApart
import Derived.Test.YtiiaooaigeenoaaWArr
import Derived.Test.YtiiaooaigeenoaaWZeros
import Derived.Test.YtiiaooaigeenoaaWFoot
import Derived.Test.YtiiaooaigeenoaaWKept
import Derived.Test.YtiiaooaigeenoaaWShare
import Derived.Test.YtiiaooaigeenoaaWN
import Derived.Test.YtiiaooaigeenoaaWFootNe
import Derived.Test.YtiiaooaigeenoaaWAt
import Derived.Test.YtiiaooaigeenoaaWEqStruct
import Derived.Test.YtiiaooaigeenoaaWRepsOne
import Derived.Test.YtiiaooaigeenoaaWInv
import Derived.Test.YtiiaooaigeenoaaWInvWords
import Derived.Test.YtiiaooaigeenoaaWGuard
import Derived.Test.YtiiaooaigeenoaaWNEv
import Derived.Test.YtiiaooaigeenoaaWMore
import Derived.Test.YtiiaooaigeenoaaModeC
import Derived.Test.YtiiaooaigeenoaaModeD
namespace Go.Proofs.Ytiiaooaigeenoaa.ModeE
open Go.RowKit Go.Proofs.YtiiaooaigeenoaaW.PrintWords Go.Proofs.YtiiaooaigeenoaaW.PrintLast Go.Proofs.YtiiaooaigeenoaaW.PrintMore 
attribute [local go_sem] max2_int min2_int max_two min_two max_three min_three max_four min_four
set_option linter.unusedVariables false
set_option linter.unusedSimpArgs false
open Go.Proofs.Ytiiaooaigeenoaa.QBase Go.Proofs.Ytiiaooaigeenoaa.Sch Go.Proofs.Ytiiaooaigeenoaa.Mode1 Go.Proofs.Ytiiaooaigeenoaa.Mode2 Go.Proofs.Ytiiaooaigeenoaa.Mode3 Go.Proofs.Ytiiaooaigeenoaa.Mode4 Go.Proofs.Ytiiaooaigeenoaa.Mode7 Go.Proofs.Ytiiaooaigeenoaa.Mode8 Go.Proofs.Ytiiaooaigeenoaa.Mode9 Go.Proofs.Ytiiaooaigeenoaa.ModeA Go.Proofs.Ytiiaooaigeenoaa.ModeC Go.Proofs.Ytiiaooaigeenoaa.ModeD
theorem blk_far_ne {w : World} {g h : Nat} {j : Nat} {o : Obj} (hne : g ≠ h) (hb : w.heap[g]? = some o) (u : Value) : (w.setCell ⟨h, j, none⟩ u).heap[g]? = some o := (Below.heap_setCell w ⟨h, j, none⟩ u g hne).trans hb
set_option maxRecDepth 100000 in
set_option maxHeartbeats 4000000 in
theorem plays_bad (A2 A3 A4 A5 : Option Addr) (c2 c3 c4 c5 : Nat) (l2 l3 : List Int) (l4 : List Bool) (l5 : List Int) (n f s dl ks ee wd rh sl cp i : Int) (w : World) (h : ¬ (Ok n f s dl ks ee wd rh sl cp ∧ 0 ≤ i ∧ i < n)) : Calls Try.prog 7 #[.agg #[.int .i64 n, .int .i64 f, .int .i64 s, .int .i64 dl, .int .i64 ks, .int .i64 ee, .int .i64 wd, .int .i64 rh, .int .i64 sl, .int .i64 cp], .int .i64 i, .slice A2 l2.length c2, .slice A3 l3.length c3, .slice A4 l4.length c4, .slice A5 l5.length c5] w fun en w' => en = .returned (.bool true) ∧ Below w.heap.size w w' := by
  have HN := Aside0.mk h
  clear h
  go_enter Try.func7, Try.ntmps7
  go_wp2_with (first | (go_at_call 8; go_loud (refine (new_not n f s dl ks ee wd rh sl cp i _ HN.out).mono ?_; rintro en w1 ⟨rfl, a2⟩; have cc := blk_below (blk_new w (.cells #[.int .i64 n, .int .i64 f, .int .i64 s, .int .i64 dl, .int .i64 ks, .int .i64 ee, .int .i64 wd, .int .i64 rh, .int .i64 sl, .int .i64 cp] 23 (0, 0))) a2; have c0 : w1.cell? ⟨w.heap.size, 0, none⟩ = some (.int .i64 n) := (blk_cell cc 0).trans rfl; have c1 : w1.cell? ⟨w.heap.size, 1, none⟩ = some (.int .i64 f) := (blk_cell cc 1).trans rfl; have c2 : w1.cell? ⟨w.heap.size, 2, none⟩ = some (.int .i64 s) := (blk_cell cc 2).trans rfl; have c3 : w1.cell? ⟨w.heap.size, 3, none⟩ = some (.int .i64 dl) := (blk_cell cc 3).trans rfl; have c4 : w1.cell? ⟨w.heap.size, 4, none⟩ = some (.int .i64 ks) := (blk_cell cc 4).trans rfl; have c5 : w1.cell? ⟨w.heap.size, 5, none⟩ = some (.int .i64 ee) := (blk_cell cc 5).trans rfl; have c6 : w1.cell? ⟨w.heap.size, 6, none⟩ = some (.int .i64 wd) := (blk_cell cc 6).trans rfl; have c7 : w1.cell? ⟨w.heap.size, 7, none⟩ = some (.int .i64 rh) := (blk_cell cc 7).trans rfl; have c8 : w1.cell? ⟨w.heap.size, 8, none⟩ = some (.int .i64 sl) := (blk_cell cc 8).trans rfl; have c9 : w1.cell? ⟨w.heap.size, 9, none⟩ = some (.int .i64 cp) := (blk_cell cc 9).trans rfl; clear cc; have HB1 := Aside0.mk (below_step (below_alloc (Below.refl _ _) (.cells #[.int .i64 n, .int .i64 f, .int .i64 s, .int .i64 dl, .int .i64 ks, .int .i64 ee, .int .i64 wd, .int .i64 rh, .int .i64 sl, .int .i64 cp] 23 (0, 0))) a2); clear a2)) | (go_at_call 18; go_loud (refine (rnew_not n f s dl ks ee wd rh sl cp i _ HN.out).mono ?_; rintro en w2 ⟨rfl, a2⟩; have HB2 := Aside0.mk (below_step HB1.out a2); clear a2)) | (go_at_call 9; go_loud (refine (awake_ok _).mono ?_; rintro en w3 ⟨rfl, hb2⟩; have HB3 := Aside0.mk (below_step HB2.out hb2); clear hb2)))
  go_ret
  exact ⟨rfl, HB3.out⟩
set_option maxRecDepth 100000 in
set_option maxHeartbeats 32000000 in
theorem plays_good (A2 A3 A4 A5 : Option Addr) (c2 c3 c4 c5 : Nat) (l2 l3 : List Int) (l4 : List Bool) (l5 : List Int) (n f s dl ks ee wd rh sl cp i : Int) (w : World) (hr2 : Kd.C (Kd.int .u8) w A2 l2.length l2) (hr3 : Kd.C (Kd.int .i64) w A3 l3.length l3) (hr4 : Rd.BoolsAt w A4 l4) (hr5 : Kd.C (Kd.int .i64) w A5 l5.length l5)
    (hw2 : ∀ x ∈ l2, (Lit.int .u8 x).wf = true) (hw3 : ∀ x ∈ l3, (Lit.int .i64 x).wf = true) (hw5 : ∀ x ∈ l5, (Lit.int .i64 x).wf = true) (hl2 : l2.length ≤ maxLen) (hl3 : l3.length ≤ maxLen) (hl4 : l4.length ≤ maxLen) (hl5 : l5.length ≤ maxLen)
    (hk : Ok n f s dl ks ee wd rh sl cp) (i0 : 0 ≤ i) (i1 : i < n) : Calls Try.prog 7 #[.agg #[.int .i64 n, .int .i64 f, .int .i64 s, .int .i64 dl, .int .i64 ks, .int .i64 ee, .int .i64 wd, .int .i64 rh, .int .i64 sl, .int .i64 cp], .int .i64 i, .slice A2 l2.length c2, .slice A3 l3.length c3, .slice A4 l4.length c4, .slice A5 l5.length c5] w fun en w' => en = .returned (.bool true) ∧ Below w.heap.size w w' := by
  obtain ⟨n0, n1, f0, f1⟩ := ok_n hk
  have HR2 := Aside0.mk hr2
  have HR3 := Aside0.mk hr3
  have HR4 := Aside0.mk hr4
  have HR5 := Aside0.mk hr5
  have HW2 := Aside0.mk hw2
  have HW3 := Aside0.mk hw3
  have HW5 := Aside0.mk hw5
  have HK := Aside0.mk hk
  unfold maxLen at hl2 hl3 hl4 hl5
  clear hr2 hr3 hr4 hr5 hw2 hw3 hw5 hk
  have HOLD : Aside0 (∀ W, Below (w.alloc (.cells #[.int .i64 n, .int .i64 f, .int .i64 s, .int .i64 dl, .int .i64 ks, .int .i64 ee, .int .i64 wd, .int .i64 rh, .int .i64 sl, .int .i64 cp] 23 (0, 0))).heap.size (w.alloc (.cells #[.int .i64 n, .int .i64 f, .int .i64 s, .int .i64 dl, .int .i64 ks, .int .i64 ee, .int .i64 wd, .int .i64 rh, .int .i64 sl, .int .i64 cp] 23 (0, 0))) W → ∀ (a : Addr) (v : Value), w.cell? a = some v → W.cell? a = some v) := ⟨fun W hB a v h => ((below_weaken (below_alloc (Below.refl w.heap.size w) (.cells #[.int .i64 n, .int .i64 f, .int .i64 s, .int .i64 dl, .int .i64 ks, .int .i64 ee, .int .i64 wd, .int .i64 rh, .int .i64 sl, .int .i64 cp] 23 (0, 0))) (by simp) hB).cell (World.block_lt_of_cell? w _ h)).trans h⟩
  go_enter Try.func7, Try.ntmps7
  go_wp2_with (first | (go_at_call 8; go_loud (refine (new_yes n f s dl ks ee wd rh sl cp i _ HK.out i0 i1).mono ?_; rintro en w1 ⟨g, rfl, a1, a2⟩; have cc := blk_below (blk_new w (.cells #[.int .i64 n, .int .i64 f, .int .i64 s, .int .i64 dl, .int .i64 ks, .int .i64 ee, .int .i64 wd, .int .i64 rh, .int .i64 sl, .int .i64 cp] 23 (0, 0))) a2; have c0 : w1.cell? ⟨w.heap.size, 0, none⟩ = some (.int .i64 n) := (blk_cell cc 0).trans rfl; have c1 : w1.cell? ⟨w.heap.size, 1, none⟩ = some (.int .i64 f) := (blk_cell cc 1).trans rfl; have c2 : w1.cell? ⟨w.heap.size, 2, none⟩ = some (.int .i64 s) := (blk_cell cc 2).trans rfl; have c3 : w1.cell? ⟨w.heap.size, 3, none⟩ = some (.int .i64 dl) := (blk_cell cc 3).trans rfl; have c4 : w1.cell? ⟨w.heap.size, 4, none⟩ = some (.int .i64 ks) := (blk_cell cc 4).trans rfl; have c5 : w1.cell? ⟨w.heap.size, 5, none⟩ = some (.int .i64 ee) := (blk_cell cc 5).trans rfl; have c6 : w1.cell? ⟨w.heap.size, 6, none⟩ = some (.int .i64 wd) := (blk_cell cc 6).trans rfl; have c7 : w1.cell? ⟨w.heap.size, 7, none⟩ = some (.int .i64 rh) := (blk_cell cc 7).trans rfl; have c8 : w1.cell? ⟨w.heap.size, 8, none⟩ = some (.int .i64 sl) := (blk_cell cc 8).trans rfl; have c9 : w1.cell? ⟨w.heap.size, 9, none⟩ = some (.int .i64 cp) := (blk_cell cc 9).trans rfl; clear cc; have I1 := Aside0.mk a1; have B1 := Aside0.mk a2; clear a1 a2)) | (go_at_call 18; go_loud (refine (rnew_yes n f s dl ks ee wd rh sl cp i _ HK.out i0 i1).mono ?_; rintro en w2 ⟨h, rfl, a1, a2⟩; have hg2 : g < w1.heap.size := blk_lt I1.out.1; have hh2 : w1.heap.size ≤ h := a1.2; have hgh : g ≠ h := (by omega); have hhg : h ≠ g := (by omega); clear hg2 hh2; have I2 : Aside0 (IsS43 (w.alloc (.cells #[.int .i64 n, .int .i64 f, .int .i64 s, .int .i64 dl, .int .i64 ks, .int .i64 ee, .int .i64 wd, .int .i64 rh, .int .i64 sl, .int .i64 cp] 23 (0, 0))) w2 g n f s dl ks ee wd rh sl cp i 1 0 true) := ⟨blk_below I1.out.1 a2, I1.out.2⟩; have J2 : Aside0 (IsS53 (w.alloc (.cells #[.int .i64 n, .int .i64 f, .int .i64 s, .int .i64 dl, .int .i64 ks, .int .i64 ee, .int .i64 wd, .int .i64 rh, .int .i64 sl, .int .i64 cp] 23 (0, 0))) w2 h n f s dl ks ee wd rh sl cp i 1 0) := ⟨a1.1, Nat.le_trans B1.out.size a1.2⟩; have B2 := Aside0.mk (below_step B1.out a2); clear a1 a2)))
  go_loopw [17] (fun v wr => ∃ (k md id : Int), v = .int .i64 k ∧ 0 ≤ k ∧ k ≤ 300 ∧ 0 ≤ md ∧ md ≤ 4 ∧ 0 ≤ id ∧ id ≤ k ∧ Aside0 (IsS43 (w.alloc (.cells #[.int .i64 n, .int .i64 f, .int .i64 s, .int .i64 dl, .int .i64 ks, .int .i64 ee, .int .i64 wd, .int .i64 rh, .int .i64 sl, .int .i64 cp] 23 (0, 0))) wr g n f s dl ks ee wd rh sl cp i md id true) ∧ Aside0 (IsS53 (w.alloc (.cells #[.int .i64 n, .int .i64 f, .int .i64 s, .int .i64 dl, .int .i64 ks, .int .i64 ee, .int .i64 wd, .int .i64 rh, .int .i64 sl, .int .i64 cp] 23 (0, 0))) wr h n f s dl ks ee wd rh sl cp i md id) ∧ Aside0 (Below (w.alloc (.cells #[.int .i64 n, .int .i64 f, .int .i64 s, .int .i64 dl, .int .i64 ks, .int .i64 ee, .int .i64 wd, .int .i64 rh, .int .i64 sl, .int .i64 cp] 23 (0, 0))).heap.size (w.alloc (.cells #[.int .i64 n, .int .i64 f, .int .i64 s, .int .i64 dl, .int .i64 ks, .int .i64 ee, .int .i64 wd, .int .i64 rh, .int .i64 sl, .int .i64 cp] 23 (0, 0))) wr)) (fun v _ => (300 - intOf v).toNat)
  case atStart => exact ⟨0, 1, 0, rfl, by omega, by omega, by omega, by omega, by omega, by omega, I2, J2, B2⟩
  case round =>
    obtain ⟨k, md, id, rfl, k0, k1, m0, m1, d0, d1, I5, J5, B5⟩ := hrel
    clear I1 B1 I2 J2 B2 c0 c1 c2 c3 c4 c5 c6 c7 c8 c9
    have hkk : id ≤ k := d1
    replace d1 : id ≤ 1000000 := by omega
    by_cases c5 : k < (l2.length : Int)
    · have c5b : decide (k < (l2.length : Int)) = true := decide_eq_true c5
      by_cases c6 : k < (l3.length : Int)
      · have c6b : decide (k < (l3.length : Int)) = true := decide_eq_true c6
        by_cases c7 : k < (l4.length : Int)
        · have c7b : decide (k < (l4.length : Int)) = true := decide_eq_true c7
          by_cases c9 : k < (l5.length : Int)
          · have c9b : decide (k < (l5.length : Int)) = true := decide_eq_true c9
            by_cases c8 : k < 300
            · have c8b : decide (k < 300) = true := decide_eq_true c8
              obtain ⟨ad2, e2, hx2⟩ := Kd.at_int HR2.out k k0 c5
              cases e2
              obtain ⟨ad3, e3, hx3⟩ := Kd.at_int HR3.out k k0 c6
              cases e3
              obtain ⟨ad4, bb, e4, hx4⟩ := bools_at HR4.out k k0 c7
              cases e4
              obtain ⟨ad5, e5, hx5⟩ := Kd.at_int HR5.out k k0 c9
              cases e5
              have hq := rd_bdu8 l2 k HW2.out k0 c5
              have hy := rd_bd64 l3 k HW3.out k0 c6
              have hqu := rd_bd64 l5 k HW5.out k0 c9
              obtain ⟨x, hx⟩ : ∃ x, rd l3 k = x := ⟨_, rfl⟩
              rw [hx] at hx3 hy
              clear hx
              obtain ⟨qu, hx⟩ : ∃ x, rd l5 k = x := ⟨_, rfl⟩
              rw [hx] at hx5 hqu
              clear hx
              obtain ⟨y0, y1⟩ := hy
              obtain ⟨qu0, qu1⟩ := hqu
              obtain ⟨q, hqq⟩ : ∃ q, rd l2 k = q := ⟨_, rfl⟩
              rw [hqq] at hx2 hq
              clear hqq
              obtain ⟨q0, q1⟩ := hq
              have X3 := Aside0.mk hx3
              have X4 := Aside0.mk hx4
              have X5 := Aside0.mk hx5
              replace hx2 := HOLD.out _ B5.out _ _ hx2
              replace hx3 := HOLD.out _ B5.out _ _ hx3
              replace hx4 := HOLD.out _ B5.out _ _ hx4
              replace hx5 := HOLD.out _ B5.out _ _ hx5
              have h4 : q % 8 = 0 ∨ q % 8 = 1 ∨ q % 8 = 2 ∨ q % 8 = 3 ∨ (4 ≤ q % 8 ∧ q % 8 ≤ 7) := by omega
              rcases h4 with k4 | k4 | k4 | k4 | ⟨k4, k5⟩
              · as_aux_lemma =>
                  have hb := set_bd md id x m0 m1 d0
                  obtain ⟨rr, md2, id2, hS⟩ : ∃ rr md2 id2, setF md id x = (rr, md2, id2) := ⟨_, _, _, rfl⟩
                  rw [hS] at hb
                  have HS := Aside0.mk hS
                  clear hS
                  obtain ⟨p0, p1, p2, p3⟩ := hb
                  dsimp only at p0 p1 p2 p3
                  go_upto_region 15 with (fail)
                  go_region_held3 (fun W => W.cell? (ad3.add k.toNat) = some (.int .i64 x)) (go_keep) (first | (go_at_call 10; go_loud (refine (set_to g n f s dl ks ee wd rh sl cp i md id x rr md2 id2 _ _ (IsS43.drew I5.out) (below_drew1 B5.out) HS.out).mono ?_; rintro en w6 ⟨rfl, a1, a2, a3⟩; have x3_6 : w6.cell? (ad3.add k.toNat) = some (.int .i64 x) := HOLD.out _ a2 _ _ X3.out; have x4_6 : w6.cell? (ad4.add k.toNat) = some (.bool bb) := HOLD.out _ a2 _ _ X4.out; have x5_6 : w6.cell? (ad5.add k.toNat) = some (.int .i64 qu) := HOLD.out _ a2 _ _ X5.out; have I6 := Aside0.mk a1; have J6 : Aside0 (IsS53 (w.alloc (.cells #[.int .i64 n, .int .i64 f, .int .i64 s, .int .i64 dl, .int .i64 ks, .int .i64 ee, .int .i64 wd, .int .i64 rh, .int .i64 sl, .int .i64 cp] 23 (0, 0))) w6 h n f s dl ks ee wd rh sl cp i md id) := ⟨a3.blk (IsS53.drew J5.out).1 hhg (by simp), (IsS53.drew J5.out).2⟩; have B6 := Aside0.mk a2; clear a1 a2 a3)) | (go_at_call 19; go_loud (refine (rset_to h n f s dl ks ee wd rh sl cp i md id x rr md2 id2 _ _ J6.out B6.out HS.out).mono ?_; rintro en w7 ⟨rfl, a1, a2, a3⟩; have x3_7 : w7.cell? (ad3.add k.toNat) = some (.int .i64 x) := HOLD.out _ a2 _ _ X3.out; have x4_7 : w7.cell? (ad4.add k.toNat) = some (.bool bb) := HOLD.out _ a2 _ _ X4.out; have x5_7 : w7.cell? (ad5.add k.toNat) = some (.int .i64 qu) := HOLD.out _ a2 _ _ X5.out; have J7 := Aside0.mk a1; have I7 : Aside0 (IsS43 (w.alloc (.cells #[.int .i64 n, .int .i64 f, .int .i64 s, .int .i64 dl, .int .i64 ks, .int .i64 ee, .int .i64 wd, .int .i64 rh, .int .i64 sl, .int .i64 cp] 23 (0, 0))) w7 g n f s dl ks ee wd rh sl cp i md2 id2 true) := ⟨a3.blk I6.out.1 hgh (by simp), I6.out.2⟩; have B7 := Aside0.mk a2; clear a1 a2 a3)))
                  go_upto_region 26 with (fail)
                  obtain ⟨lb, hlb⟩ : ∃ lb, listB (qt n s wd rh sl) (n * s) i md2 qu bb = lb := ⟨_, rfl⟩
                  have HL := Aside0.mk hlb
                  clear hlb
                  have y11 : w7.cell? ⟨h, 11, none⟩ = some (.int .i64 md2) := (blk_cell J7.out.1 11).trans rfl
                  have y12 : w7.cell? ⟨h, 12, none⟩ = some (.int .i64 id2) := (blk_cell J7.out.1 12).trans rfl
                  go_region_held3 (fun W => W.cell? ⟨h, 11, none⟩ = some (.int .i64 md2) ∧ W.cell? ⟨h, 12, none⟩ = some (.int .i64 id2) ∧ W.cell? (ad4.add k.toNat) = some (.bool bb) ∧ W.cell? (ad5.add k.toNat) = some (.int .i64 qu)) (go_keep) (first | (go_at_call 15; go_loud (refine (mode_ok g n f s dl ks ee wd rh sl cp i md2 id2 _ _ (IsS43.drew I7.out) (below_drew1 B7.out)).mono ?_; rintro en wq ⟨rfl, rfl⟩)) | (go_at_call 13; go_loud (refine (idle_ok g n f s dl ks ee wd rh sl cp i md2 id2 _ _ (IsS43.drew I7.out) (below_drew1 B7.out)).mono ?_; rintro en wq ⟨rfl, rfl⟩)) | (go_at_call 17; go_loud (refine (listen_to g n f s dl ks ee wd rh sl cp i md2 id2 qu bb lb _ _ (IsS43.drew I7.out) (below_drew1 B7.out) HK.out i0 i1 qu1 HL.out).mono ?_; rintro en w8 ⟨rfl, a1, a2, a3⟩; have x3_8 : w8.cell? (ad3.add k.toNat) = some (.int .i64 x) := HOLD.out _ a2 _ _ X3.out; have x4_8 : w8.cell? (ad4.add k.toNat) = some (.bool bb) := HOLD.out _ a2 _ _ X4.out; have x5_8 : w8.cell? (ad5.add k.toNat) = some (.int .i64 qu) := HOLD.out _ a2 _ _ X5.out; have I8 := Aside0.mk a1; have J8 : Aside0 (IsS53 (w.alloc (.cells #[.int .i64 n, .int .i64 f, .int .i64 s, .int .i64 dl, .int .i64 ks, .int .i64 ee, .int .i64 wd, .int .i64 rh, .int .i64 sl, .int .i64 cp] 23 (0, 0))) w8 h n f s dl ks ee wd rh sl cp i md2 id2) := ⟨a3.blk (IsS53.drew J7.out).1 hhg (by simp), (IsS53.drew J7.out).2⟩; have B8 := Aside0.mk a2; clear a1 a2 a3; have z11 : w8.cell? ⟨h, 11, none⟩ = some (.int .i64 md2) := (blk_cell J8.out.1 11).trans rfl; have z12 : w8.cell? ⟨h, 12, none⟩ = some (.int .i64 id2) := (blk_cell J8.out.1 12).trans rfl)) | (go_at_call 22; go_loud (refine (rlisten_to h n f s dl ks ee wd rh sl cp i md2 id2 qu bb lb _ _ J8.out B8.out HK.out i0 i1 qu1 HL.out).mono ?_; rintro en w9 ⟨rfl, a1, a2, a3⟩; have x3_9 : w9.cell? (ad3.add k.toNat) = some (.int .i64 x) := HOLD.out _ a2 _ _ X3.out; have x4_9 : w9.cell? (ad4.add k.toNat) = some (.bool bb) := HOLD.out _ a2 _ _ X4.out; have x5_9 : w9.cell? (ad5.add k.toNat) = some (.int .i64 qu) := HOLD.out _ a2 _ _ X5.out; have J9 := Aside0.mk a1; have I9 : Aside0 (IsS43 (w.alloc (.cells #[.int .i64 n, .int .i64 f, .int .i64 s, .int .i64 dl, .int .i64 ks, .int .i64 ee, .int .i64 wd, .int .i64 rh, .int .i64 sl, .int .i64 cp] 23 (0, 0))) w9 g n f s dl ks ee wd rh sl cp i md2 id2 true) := ⟨a3.blk I8.out.1 hgh (by simp), I8.out.2⟩; have B9 := Aside0.mk a2; clear a1 a2 a3; have u11 : w9.cell? ⟨h, 11, none⟩ = some (.int .i64 md2) := (blk_cell J9.out.1 11).trans rfl; have u12 : w9.cell? ⟨h, 12, none⟩ = some (.int .i64 id2) := (blk_cell J9.out.1 12).trans rfl)))
                  go_wp2
                  go_roundw
                  case rel => exact ⟨k + 1, md2, id2, by go_num, by omega, by omega, by omega, by omega, by omega, by omega, I9, J9, B9⟩
                  case measure => simp [intOf]; omega
              · as_aux_lemma =>
                  have hb := watch_bd n f md x m0 m1
                  obtain ⟨md2, hS⟩ : ∃ md2, watchF n f md x = md2 := ⟨_, rfl⟩
                  rw [hS] at hb
                  have HS := Aside0.mk hS
                  clear hS
                  obtain ⟨p0, p1⟩ := hb
                  go_upto_region 26 with (first | (go_at_call 14; go_loud (refine (watch_to g n f s dl ks ee wd rh sl cp i md id x _ _ I5.out B5.out HK.out m0 m1 md2 HS.out).mono ?_; rintro en w6 ⟨rfl, a1, a2, a3⟩; have x3_6 : w6.cell? (ad3.add k.toNat) = some (.int .i64 x) := HOLD.out _ a2 _ _ X3.out; have x4_6 : w6.cell? (ad4.add k.toNat) = some (.bool bb) := HOLD.out _ a2 _ _ X4.out; have x5_6 : w6.cell? (ad5.add k.toNat) = some (.int .i64 qu) := HOLD.out _ a2 _ _ X5.out; have I6 := Aside0.mk a1; have J6 : Aside0 (IsS53 (w.alloc (.cells #[.int .i64 n, .int .i64 f, .int .i64 s, .int .i64 dl, .int .i64 ks, .int .i64 ee, .int .i64 wd, .int .i64 rh, .int .i64 sl, .int .i64 cp] 23 (0, 0))) w6 h n f s dl ks ee wd rh sl cp i md id) := ⟨a3.blk J5.out.1 hhg (by simp), J5.out.2⟩; have B6 := Aside0.mk a2; clear a1 a2 a3)) | (go_at_call 20; go_loud (refine (rwatch_to h n f s dl ks ee wd rh sl cp i md id x md2 _ _ J6.out B6.out HK.out m0 m1 HS.out).mono ?_; rintro en w7 ⟨rfl, a1, a2, a3⟩; have x3_7 : w7.cell? (ad3.add k.toNat) = some (.int .i64 x) := HOLD.out _ a2 _ _ X3.out; have x4_7 : w7.cell? (ad4.add k.toNat) = some (.bool bb) := HOLD.out _ a2 _ _ X4.out; have x5_7 : w7.cell? (ad5.add k.toNat) = some (.int .i64 qu) := HOLD.out _ a2 _ _ X5.out; have J7 := Aside0.mk a1; have I7 : Aside0 (IsS43 (w.alloc (.cells #[.int .i64 n, .int .i64 f, .int .i64 s, .int .i64 dl, .int .i64 ks, .int .i64 ee, .int .i64 wd, .int .i64 rh, .int .i64 sl, .int .i64 cp] 23 (0, 0))) w7 g n f s dl ks ee wd rh sl cp i md2 id true) := ⟨a3.blk I6.out.1 hgh (by simp), I6.out.2⟩; have B7 := Aside0.mk a2; clear a1 a2 a3)))
                  obtain ⟨lb, hlb⟩ : ∃ lb, listB (qt n s wd rh sl) (n * s) i md2 qu bb = lb := ⟨_, rfl⟩
                  have HL := Aside0.mk hlb
                  clear hlb
                  have y11 : w7.cell? ⟨h, 11, none⟩ = some (.int .i64 md2) := (blk_cell J7.out.1 11).trans rfl
                  have y12 : w7.cell? ⟨h, 12, none⟩ = some (.int .i64 id) := (blk_cell J7.out.1 12).trans rfl
                  go_region_held3 (fun W => W.cell? ⟨h, 11, none⟩ = some (.int .i64 md2) ∧ W.cell? ⟨h, 12, none⟩ = some (.int .i64 id) ∧ W.cell? (ad4.add k.toNat) = some (.bool bb) ∧ W.cell? (ad5.add k.toNat) = some (.int .i64 qu)) (go_keep) (first | (go_at_call 15; go_loud (refine (mode_ok g n f s dl ks ee wd rh sl cp i md2 id _ _ (IsS43.drew I7.out) (below_drew1 B7.out)).mono ?_; rintro en wq ⟨rfl, rfl⟩)) | (go_at_call 13; go_loud (refine (idle_ok g n f s dl ks ee wd rh sl cp i md2 id _ _ (IsS43.drew I7.out) (below_drew1 B7.out)).mono ?_; rintro en wq ⟨rfl, rfl⟩)) | (go_at_call 17; go_loud (refine (listen_to g n f s dl ks ee wd rh sl cp i md2 id qu bb lb _ _ (IsS43.drew I7.out) (below_drew1 B7.out) HK.out i0 i1 qu1 HL.out).mono ?_; rintro en w8 ⟨rfl, a1, a2, a3⟩; have x3_8 : w8.cell? (ad3.add k.toNat) = some (.int .i64 x) := HOLD.out _ a2 _ _ X3.out; have x4_8 : w8.cell? (ad4.add k.toNat) = some (.bool bb) := HOLD.out _ a2 _ _ X4.out; have x5_8 : w8.cell? (ad5.add k.toNat) = some (.int .i64 qu) := HOLD.out _ a2 _ _ X5.out; have I8 := Aside0.mk a1; have J8 : Aside0 (IsS53 (w.alloc (.cells #[.int .i64 n, .int .i64 f, .int .i64 s, .int .i64 dl, .int .i64 ks, .int .i64 ee, .int .i64 wd, .int .i64 rh, .int .i64 sl, .int .i64 cp] 23 (0, 0))) w8 h n f s dl ks ee wd rh sl cp i md2 id) := ⟨a3.blk (IsS53.drew J7.out).1 hhg (by simp), (IsS53.drew J7.out).2⟩; have B8 := Aside0.mk a2; clear a1 a2 a3; have z11 : w8.cell? ⟨h, 11, none⟩ = some (.int .i64 md2) := (blk_cell J8.out.1 11).trans rfl; have z12 : w8.cell? ⟨h, 12, none⟩ = some (.int .i64 id) := (blk_cell J8.out.1 12).trans rfl)) | (go_at_call 22; go_loud (refine (rlisten_to h n f s dl ks ee wd rh sl cp i md2 id qu bb lb _ _ J8.out B8.out HK.out i0 i1 qu1 HL.out).mono ?_; rintro en w9 ⟨rfl, a1, a2, a3⟩; have x3_9 : w9.cell? (ad3.add k.toNat) = some (.int .i64 x) := HOLD.out _ a2 _ _ X3.out; have x4_9 : w9.cell? (ad4.add k.toNat) = some (.bool bb) := HOLD.out _ a2 _ _ X4.out; have x5_9 : w9.cell? (ad5.add k.toNat) = some (.int .i64 qu) := HOLD.out _ a2 _ _ X5.out; have J9 := Aside0.mk a1; have I9 : Aside0 (IsS43 (w.alloc (.cells #[.int .i64 n, .int .i64 f, .int .i64 s, .int .i64 dl, .int .i64 ks, .int .i64 ee, .int .i64 wd, .int .i64 rh, .int .i64 sl, .int .i64 cp] 23 (0, 0))) w9 g n f s dl ks ee wd rh sl cp i md2 id true) := ⟨a3.blk I8.out.1 hgh (by simp), I8.out.2⟩; have B9 := Aside0.mk a2; clear a1 a2 a3; have u11 : w9.cell? ⟨h, 11, none⟩ = some (.int .i64 md2) := (blk_cell J9.out.1 11).trans rfl; have u12 : w9.cell? ⟨h, 12, none⟩ = some (.int .i64 id) := (blk_cell J9.out.1 12).trans rfl)))
                  go_wp2
                  go_roundw
                  case rel => exact ⟨k + 1, md2, id, by go_num, by omega, by omega, by omega, by omega, by omega, by omega, I9, J9, B9⟩
                  case measure => simp [intOf]; omega
              · as_aux_lemma =>
                  have hb := watch_bd n f md x m0 m1
                  obtain ⟨md2, hS⟩ : ∃ md2, watchF n f md x = md2 := ⟨_, rfl⟩
                  rw [hS] at hb
                  have HS := Aside0.mk hS
                  clear hS
                  obtain ⟨p0, p1⟩ := hb
                  go_upto_region 26 with (first | (go_at_call 14; go_loud (refine (watch_to g n f s dl ks ee wd rh sl cp i md id x _ _ I5.out B5.out HK.out m0 m1 md2 HS.out).mono ?_; rintro en w6 ⟨rfl, a1, a2, a3⟩; have x3_6 : w6.cell? (ad3.add k.toNat) = some (.int .i64 x) := HOLD.out _ a2 _ _ X3.out; have x4_6 : w6.cell? (ad4.add k.toNat) = some (.bool bb) := HOLD.out _ a2 _ _ X4.out; have x5_6 : w6.cell? (ad5.add k.toNat) = some (.int .i64 qu) := HOLD.out _ a2 _ _ X5.out; have I6 := Aside0.mk a1; have J6 : Aside0 (IsS53 (w.alloc (.cells #[.int .i64 n, .int .i64 f, .int .i64 s, .int .i64 dl, .int .i64 ks, .int .i64 ee, .int .i64 wd, .int .i64 rh, .int .i64 sl, .int .i64 cp] 23 (0, 0))) w6 h n f s dl ks ee wd rh sl cp i md id) := ⟨a3.blk J5.out.1 hhg (by simp), J5.out.2⟩; have B6 := Aside0.mk a2; clear a1 a2 a3)) | (go_at_call 20; go_loud (refine (rwatch_to h n f s dl ks ee wd rh sl cp i md id x md2 _ _ J6.out B6.out HK.out m0 m1 HS.out).mono ?_; rintro en w7 ⟨rfl, a1, a2, a3⟩; have x3_7 : w7.cell? (ad3.add k.toNat) = some (.int .i64 x) := HOLD.out _ a2 _ _ X3.out; have x4_7 : w7.cell? (ad4.add k.toNat) = some (.bool bb) := HOLD.out _ a2 _ _ X4.out; have x5_7 : w7.cell? (ad5.add k.toNat) = some (.int .i64 qu) := HOLD.out _ a2 _ _ X5.out; have J7 := Aside0.mk a1; have I7 : Aside0 (IsS43 (w.alloc (.cells #[.int .i64 n, .int .i64 f, .int .i64 s, .int .i64 dl, .int .i64 ks, .int .i64 ee, .int .i64 wd, .int .i64 rh, .int .i64 sl, .int .i64 cp] 23 (0, 0))) w7 g n f s dl ks ee wd rh sl cp i md2 id true) := ⟨a3.blk I6.out.1 hgh (by simp), I6.out.2⟩; have B7 := Aside0.mk a2; clear a1 a2 a3)))
                  obtain ⟨lb, hlb⟩ : ∃ lb, listB (qt n s wd rh sl) (n * s) i md2 qu bb = lb := ⟨_, rfl⟩
                  have HL := Aside0.mk hlb
                  clear hlb
                  have y11 : w7.cell? ⟨h, 11, none⟩ = some (.int .i64 md2) := (blk_cell J7.out.1 11).trans rfl
                  have y12 : w7.cell? ⟨h, 12, none⟩ = some (.int .i64 id) := (blk_cell J7.out.1 12).trans rfl
                  go_region_held3 (fun W => W.cell? ⟨h, 11, none⟩ = some (.int .i64 md2) ∧ W.cell? ⟨h, 12, none⟩ = some (.int .i64 id) ∧ W.cell? (ad4.add k.toNat) = some (.bool bb) ∧ W.cell? (ad5.add k.toNat) = some (.int .i64 qu)) (go_keep) (first | (go_at_call 15; go_loud (refine (mode_ok g n f s dl ks ee wd rh sl cp i md2 id _ _ (IsS43.drew I7.out) (below_drew1 B7.out)).mono ?_; rintro en wq ⟨rfl, rfl⟩)) | (go_at_call 13; go_loud (refine (idle_ok g n f s dl ks ee wd rh sl cp i md2 id _ _ (IsS43.drew I7.out) (below_drew1 B7.out)).mono ?_; rintro en wq ⟨rfl, rfl⟩)) | (go_at_call 17; go_loud (refine (listen_to g n f s dl ks ee wd rh sl cp i md2 id qu bb lb _ _ (IsS43.drew I7.out) (below_drew1 B7.out) HK.out i0 i1 qu1 HL.out).mono ?_; rintro en w8 ⟨rfl, a1, a2, a3⟩; have x3_8 : w8.cell? (ad3.add k.toNat) = some (.int .i64 x) := HOLD.out _ a2 _ _ X3.out; have x4_8 : w8.cell? (ad4.add k.toNat) = some (.bool bb) := HOLD.out _ a2 _ _ X4.out; have x5_8 : w8.cell? (ad5.add k.toNat) = some (.int .i64 qu) := HOLD.out _ a2 _ _ X5.out; have I8 := Aside0.mk a1; have J8 : Aside0 (IsS53 (w.alloc (.cells #[.int .i64 n, .int .i64 f, .int .i64 s, .int .i64 dl, .int .i64 ks, .int .i64 ee, .int .i64 wd, .int .i64 rh, .int .i64 sl, .int .i64 cp] 23 (0, 0))) w8 h n f s dl ks ee wd rh sl cp i md2 id) := ⟨a3.blk (IsS53.drew J7.out).1 hhg (by simp), (IsS53.drew J7.out).2⟩; have B8 := Aside0.mk a2; clear a1 a2 a3; have z11 : w8.cell? ⟨h, 11, none⟩ = some (.int .i64 md2) := (blk_cell J8.out.1 11).trans rfl; have z12 : w8.cell? ⟨h, 12, none⟩ = some (.int .i64 id) := (blk_cell J8.out.1 12).trans rfl)) | (go_at_call 22; go_loud (refine (rlisten_to h n f s dl ks ee wd rh sl cp i md2 id qu bb lb _ _ J8.out B8.out HK.out i0 i1 qu1 HL.out).mono ?_; rintro en w9 ⟨rfl, a1, a2, a3⟩; have x3_9 : w9.cell? (ad3.add k.toNat) = some (.int .i64 x) := HOLD.out _ a2 _ _ X3.out; have x4_9 : w9.cell? (ad4.add k.toNat) = some (.bool bb) := HOLD.out _ a2 _ _ X4.out; have x5_9 : w9.cell? (ad5.add k.toNat) = some (.int .i64 qu) := HOLD.out _ a2 _ _ X5.out; have J9 := Aside0.mk a1; have I9 : Aside0 (IsS43 (w.alloc (.cells #[.int .i64 n, .int .i64 f, .int .i64 s, .int .i64 dl, .int .i64 ks, .int .i64 ee, .int .i64 wd, .int .i64 rh, .int .i64 sl, .int .i64 cp] 23 (0, 0))) w9 g n f s dl ks ee wd rh sl cp i md2 id true) := ⟨a3.blk I8.out.1 hgh (by simp), I8.out.2⟩; have B9 := Aside0.mk a2; clear a1 a2 a3; have u11 : w9.cell? ⟨h, 11, none⟩ = some (.int .i64 md2) := (blk_cell J9.out.1 11).trans rfl; have u12 : w9.cell? ⟨h, 12, none⟩ = some (.int .i64 id) := (blk_cell J9.out.1 12).trans rfl)))
                  go_wp2
                  go_roundw
                  case rel => exact ⟨k + 1, md2, id, by go_num, by omega, by omega, by omega, by omega, by omega, by omega, I9, J9, B9⟩
                  case measure => simp [intOf]; omega
              · as_aux_lemma =>
                  by_cases h7 : x = 7
                  · as_aux_lemma =>
                    have h7b : (x == 7) = true := beq_iff_eq.2 h7
                    clear h7
                    go_upto_region 26 with (first | (go_at_call 16; go_loud (refine (stop_ok g n f s dl ks ee wd rh sl cp i md id _ _ I5.out B5.out).mono ?_; rintro en w6 ⟨rfl, a1, a2, a3⟩; have x3_6 : w6.cell? (ad3.add k.toNat) = some (.int .i64 x) := HOLD.out _ a2 _ _ X3.out; have x4_6 : w6.cell? (ad4.add k.toNat) = some (.bool bb) := HOLD.out _ a2 _ _ X4.out; have x5_6 : w6.cell? (ad5.add k.toNat) = some (.int .i64 qu) := HOLD.out _ a2 _ _ X5.out; have I6 := Aside0.mk a1; have J6 : Aside0 (IsS53 (w.alloc (.cells #[.int .i64 n, .int .i64 f, .int .i64 s, .int .i64 dl, .int .i64 ks, .int .i64 ee, .int .i64 wd, .int .i64 rh, .int .i64 sl, .int .i64 cp] 23 (0, 0))) w6 h n f s dl ks ee wd rh sl cp i md id) := ⟨a3.blk J5.out.1 hhg (by simp), J5.out.2⟩; have B6 := Aside0.mk a2; clear a1 a2 a3; have fz11 : w6.frozen? ⟨h, 11, none⟩ = false := blk_frozen J6.out.1 11; have kz11 : w6.cell? ⟨h, 11, none⟩ = some (.int .i64 md) := (blk_cell J6.out.1 11).trans rfl)))
                    refine wp_gen (fun W => (IsS43 (w.alloc (.cells #[.int .i64 n, .int .i64 f, .int .i64 s, .int .i64 dl, .int .i64 ks, .int .i64 ee, .int .i64 wd, .int .i64 rh, .int .i64 sl, .int .i64 cp] 23 (0, 0))) W g n f s dl ks ee wd rh sl cp i 0 id true) ∧ (IsS53 (w.alloc (.cells #[.int .i64 n, .int .i64 f, .int .i64 s, .int .i64 dl, .int .i64 ks, .int .i64 ee, .int .i64 wd, .int .i64 rh, .int .i64 sl, .int .i64 cp] 23 (0, 0))) W h n f s dl ks ee wd rh sl cp i 0 id) ∧ Below (w.alloc (.cells #[.int .i64 n, .int .i64 f, .int .i64 s, .int .i64 dl, .int .i64 ks, .int .i64 ee, .int .i64 wd, .int .i64 rh, .int .i64 sl, .int .i64 cp] 23 (0, 0))).heap.size (w.alloc (.cells #[.int .i64 n, .int .i64 f, .int .i64 s, .int .i64 dl, .int .i64 ks, .int .i64 ee, .int .i64 wd, .int .i64 rh, .int .i64 sl, .int .i64 cp] 23 (0, 0))) W) ⟨⟨blk_far_ne (fun e => hgh e) I6.out.1 _, I6.out.2⟩, IsS53.set_11 J6.out _, B6.out.setCell J6.out.2 _⟩ ?_
                    rintro w7 ⟨a1, a2, a3⟩
                    have x3_7 : w7.cell? (ad3.add k.toNat) = some (.int .i64 x) := HOLD.out _ a3 _ _ X3.out
                    have x4_7 : w7.cell? (ad4.add k.toNat) = some (.bool bb) := HOLD.out _ a3 _ _ X4.out
                    have x5_7 : w7.cell? (ad5.add k.toNat) = some (.int .i64 qu) := HOLD.out _ a3 _ _ X5.out
                    have I7 := Aside0.mk a1
                    have J7 := Aside0.mk a2
                    have B7 := Aside0.mk a3
                    clear a1 a2 a3 I5 J5 B5 I6 J6 B6 hx2 hx3 hx4 hx5 fz11 kz11 x3_6 x4_6 x5_6
                    obtain ⟨lb, hlb⟩ : ∃ lb, listB (qt n s wd rh sl) (n * s) i 0 qu bb = lb := ⟨_, rfl⟩
                    have HL := Aside0.mk hlb
                    clear hlb
                    have y11 : w7.cell? ⟨h, 11, none⟩ = some (.int .i64 0) := (blk_cell J7.out.1 11).trans rfl
                    have y12 : w7.cell? ⟨h, 12, none⟩ = some (.int .i64 id) := (blk_cell J7.out.1 12).trans rfl
                    go_region_held3 (fun W => W.cell? ⟨h, 11, none⟩ = some (.int .i64 0) ∧ W.cell? ⟨h, 12, none⟩ = some (.int .i64 id) ∧ W.cell? (ad4.add k.toNat) = some (.bool bb) ∧ W.cell? (ad5.add k.toNat) = some (.int .i64 qu)) (go_keep) (first | (go_at_call 15; go_loud (refine (mode_ok g n f s dl ks ee wd rh sl cp i 0 id _ _ (IsS43.drew I7.out) (below_drew1 B7.out)).mono ?_; rintro en wq ⟨rfl, rfl⟩)) | (go_at_call 13; go_loud (refine (idle_ok g n f s dl ks ee wd rh sl cp i 0 id _ _ (IsS43.drew I7.out) (below_drew1 B7.out)).mono ?_; rintro en wq ⟨rfl, rfl⟩)) | (go_at_call 17; go_loud (refine (listen_to g n f s dl ks ee wd rh sl cp i 0 id qu bb lb _ _ (IsS43.drew I7.out) (below_drew1 B7.out) HK.out i0 i1 qu1 HL.out).mono ?_; rintro en w8 ⟨rfl, a1, a2, a3⟩; have x3_8 : w8.cell? (ad3.add k.toNat) = some (.int .i64 x) := HOLD.out _ a2 _ _ X3.out; have x4_8 : w8.cell? (ad4.add k.toNat) = some (.bool bb) := HOLD.out _ a2 _ _ X4.out; have x5_8 : w8.cell? (ad5.add k.toNat) = some (.int .i64 qu) := HOLD.out _ a2 _ _ X5.out; have I8 := Aside0.mk a1; have J8 : Aside0 (IsS53 (w.alloc (.cells #[.int .i64 n, .int .i64 f, .int .i64 s, .int .i64 dl, .int .i64 ks, .int .i64 ee, .int .i64 wd, .int .i64 rh, .int .i64 sl, .int .i64 cp] 23 (0, 0))) w8 h n f s dl ks ee wd rh sl cp i 0 id) := ⟨a3.blk (IsS53.drew J7.out).1 hhg (by simp), (IsS53.drew J7.out).2⟩; have B8 := Aside0.mk a2; clear a1 a2 a3; have z11 : w8.cell? ⟨h, 11, none⟩ = some (.int .i64 0) := (blk_cell J8.out.1 11).trans rfl; have z12 : w8.cell? ⟨h, 12, none⟩ = some (.int .i64 id) := (blk_cell J8.out.1 12).trans rfl)) | (go_at_call 22; go_loud (refine (rlisten_to h n f s dl ks ee wd rh sl cp i 0 id qu bb lb _ _ J8.out B8.out HK.out i0 i1 qu1 HL.out).mono ?_; rintro en w9 ⟨rfl, a1, a2, a3⟩; have x3_9 : w9.cell? (ad3.add k.toNat) = some (.int .i64 x) := HOLD.out _ a2 _ _ X3.out; have x4_9 : w9.cell? (ad4.add k.toNat) = some (.bool bb) := HOLD.out _ a2 _ _ X4.out; have x5_9 : w9.cell? (ad5.add k.toNat) = some (.int .i64 qu) := HOLD.out _ a2 _ _ X5.out; have J9 := Aside0.mk a1; have I9 : Aside0 (IsS43 (w.alloc (.cells #[.int .i64 n, .int .i64 f, .int .i64 s, .int .i64 dl, .int .i64 ks, .int .i64 ee, .int .i64 wd, .int .i64 rh, .int .i64 sl, .int .i64 cp] 23 (0, 0))) w9 g n f s dl ks ee wd rh sl cp i 0 id true) := ⟨a3.blk I8.out.1 hgh (by simp), I8.out.2⟩; have B9 := Aside0.mk a2; clear a1 a2 a3; have u11 : w9.cell? ⟨h, 11, none⟩ = some (.int .i64 0) := (blk_cell J9.out.1 11).trans rfl; have u12 : w9.cell? ⟨h, 12, none⟩ = some (.int .i64 id) := (blk_cell J9.out.1 12).trans rfl)))
                    go_wp2
                    go_roundw
                    case rel => exact ⟨k + 1, 0, id, by go_num, by omega, by omega, by omega, by omega, by omega, by omega, I9, J9, B9⟩
                    case measure => simp [intOf]; omega
                  · as_aux_lemma =>
                    have h7b : (x == 7) = false := beq_eq_false_iff_ne.2 h7
                    go_upto_region 26 with (fail)
                    obtain ⟨lb, hlb⟩ : ∃ lb, listB (qt n s wd rh sl) (n * s) i md qu bb = lb := ⟨_, rfl⟩
                    have HL := Aside0.mk hlb
                    clear hlb
                    have y11 : wr.cell? ⟨h, 11, none⟩ = some (.int .i64 md) := (blk_cell J5.out.1 11).trans rfl
                    have y12 : wr.cell? ⟨h, 12, none⟩ = some (.int .i64 id) := (blk_cell J5.out.1 12).trans rfl
                    go_region_held3 (fun W => W.cell? ⟨h, 11, none⟩ = some (.int .i64 md) ∧ W.cell? ⟨h, 12, none⟩ = some (.int .i64 id) ∧ W.cell? (ad4.add k.toNat) = some (.bool bb) ∧ W.cell? (ad5.add k.toNat) = some (.int .i64 qu)) (go_keep) (first | (go_at_call 15; go_loud (refine (mode_ok g n f s dl ks ee wd rh sl cp i md id _ _ (IsS43.drew I5.out) (below_drew1 B5.out)).mono ?_; rintro en wq ⟨rfl, rfl⟩)) | (go_at_call 13; go_loud (refine (idle_ok g n f s dl ks ee wd rh sl cp i md id _ _ (IsS43.drew I5.out) (below_drew1 B5.out)).mono ?_; rintro en wq ⟨rfl, rfl⟩)) | (go_at_call 17; go_loud (refine (listen_to g n f s dl ks ee wd rh sl cp i md id qu bb lb _ _ (IsS43.drew I5.out) (below_drew1 B5.out) HK.out i0 i1 qu1 HL.out).mono ?_; rintro en w8 ⟨rfl, a1, a2, a3⟩; have x3_8 : w8.cell? (ad3.add k.toNat) = some (.int .i64 x) := HOLD.out _ a2 _ _ X3.out; have x4_8 : w8.cell? (ad4.add k.toNat) = some (.bool bb) := HOLD.out _ a2 _ _ X4.out; have x5_8 : w8.cell? (ad5.add k.toNat) = some (.int .i64 qu) := HOLD.out _ a2 _ _ X5.out; have I8 := Aside0.mk a1; have J8 : Aside0 (IsS53 (w.alloc (.cells #[.int .i64 n, .int .i64 f, .int .i64 s, .int .i64 dl, .int .i64 ks, .int .i64 ee, .int .i64 wd, .int .i64 rh, .int .i64 sl, .int .i64 cp] 23 (0, 0))) w8 h n f s dl ks ee wd rh sl cp i md id) := ⟨a3.blk (IsS53.drew J5.out).1 hhg (by simp), (IsS53.drew J5.out).2⟩; have B8 := Aside0.mk a2; clear a1 a2 a3; have z11 : w8.cell? ⟨h, 11, none⟩ = some (.int .i64 md) := (blk_cell J8.out.1 11).trans rfl; have z12 : w8.cell? ⟨h, 12, none⟩ = some (.int .i64 id) := (blk_cell J8.out.1 12).trans rfl)) | (go_at_call 22; go_loud (refine (rlisten_to h n f s dl ks ee wd rh sl cp i md id qu bb lb _ _ J8.out B8.out HK.out i0 i1 qu1 HL.out).mono ?_; rintro en w9 ⟨rfl, a1, a2, a3⟩; have x3_9 : w9.cell? (ad3.add k.toNat) = some (.int .i64 x) := HOLD.out _ a2 _ _ X3.out; have x4_9 : w9.cell? (ad4.add k.toNat) = some (.bool bb) := HOLD.out _ a2 _ _ X4.out; have x5_9 : w9.cell? (ad5.add k.toNat) = some (.int .i64 qu) := HOLD.out _ a2 _ _ X5.out; have J9 := Aside0.mk a1; have I9 : Aside0 (IsS43 (w.alloc (.cells #[.int .i64 n, .int .i64 f, .int .i64 s, .int .i64 dl, .int .i64 ks, .int .i64 ee, .int .i64 wd, .int .i64 rh, .int .i64 sl, .int .i64 cp] 23 (0, 0))) w9 g n f s dl ks ee wd rh sl cp i md id true) := ⟨a3.blk I8.out.1 hgh (by simp), I8.out.2⟩; have B9 := Aside0.mk a2; clear a1 a2 a3; have u11 : w9.cell? ⟨h, 11, none⟩ = some (.int .i64 md) := (blk_cell J9.out.1 11).trans rfl; have u12 : w9.cell? ⟨h, 12, none⟩ = some (.int .i64 id) := (blk_cell J9.out.1 12).trans rfl)))
                    go_wp2
                    go_roundw
                    case rel => exact ⟨k + 1, md, id, by go_num, by omega, by omega, by omega, by omega, by omega, by omega, I9, J9, B9⟩
                    case measure => simp [intOf]; omega
              · as_aux_lemma =>
                  have hb := round_bd (pat n s dl wd rh sl i) n f md id x bb m0 m1 d0
                  obtain ⟨md2, id2, hS⟩ : ∃ md2 id2, roundF (pat n s dl wd rh sl i) n f md id x bb = (md2, id2) := ⟨_, _, rfl⟩
                  rw [hS] at hb
                  have HS := Aside0.mk hS
                  clear hS
                  obtain ⟨p0, p1, p2, p3⟩ := hb
                  dsimp only at p0 p1 p2 p3
                  go_upto_region 11 with (fail)
                  go_region_held3 (fun W => W.cell? (ad3.add k.toNat) = some (.int .i64 x) ∧ W.cell? (ad4.add k.toNat) = some (.bool bb)) (go_keep) (first | (go_at_call 12; go_loud (refine (round_to g n f s dl ks ee wd rh sl cp i md id x bb _ _ (IsS43.drew I5.out) (below_drew1 B5.out) HK.out i0 i1 d0 d1 m0 m1 md2 id2 HS.out).mono ?_; rintro en w6 ⟨rfl, a1, a2, a3⟩; have x3_6 : w6.cell? (ad3.add k.toNat) = some (.int .i64 x) := HOLD.out _ a2 _ _ X3.out; have x4_6 : w6.cell? (ad4.add k.toNat) = some (.bool bb) := HOLD.out _ a2 _ _ X4.out; have x5_6 : w6.cell? (ad5.add k.toNat) = some (.int .i64 qu) := HOLD.out _ a2 _ _ X5.out; have I6 := Aside0.mk a1; have J6 : Aside0 (IsS53 (w.alloc (.cells #[.int .i64 n, .int .i64 f, .int .i64 s, .int .i64 dl, .int .i64 ks, .int .i64 ee, .int .i64 wd, .int .i64 rh, .int .i64 sl, .int .i64 cp] 23 (0, 0))) w6 h n f s dl ks ee wd rh sl cp i md id) := ⟨a3.blk (IsS53.drew J5.out).1 hhg (by simp), (IsS53.drew J5.out).2⟩; have B6 := Aside0.mk a2; clear a1 a2 a3)))
                  go_upto_region 12 with (fail)
                  go_region_held3 (fun W => W.cell? (ad3.add k.toNat) = some (.int .i64 x) ∧ W.cell? (ad4.add k.toNat) = some (.bool bb)) (go_keep) (first | (go_at_call 21; go_loud (refine (rround_to h n f s dl ks ee wd rh sl cp i md id x bb md2 id2 _ _ (IsS53.drew J6.out) (below_drew1 B6.out) HK.out i0 i1 d0 d1 m0 m1 HS.out).mono ?_; rintro en w7 ⟨rfl, a1, a2, a3⟩; have x3_7 : w7.cell? (ad3.add k.toNat) = some (.int .i64 x) := HOLD.out _ a2 _ _ X3.out; have x4_7 : w7.cell? (ad4.add k.toNat) = some (.bool bb) := HOLD.out _ a2 _ _ X4.out; have x5_7 : w7.cell? (ad5.add k.toNat) = some (.int .i64 qu) := HOLD.out _ a2 _ _ X5.out; have J7 := Aside0.mk a1; have I7 : Aside0 (IsS43 (w.alloc (.cells #[.int .i64 n, .int .i64 f, .int .i64 s, .int .i64 dl, .int .i64 ks, .int .i64 ee, .int .i64 wd, .int .i64 rh, .int .i64 sl, .int .i64 cp] 23 (0, 0))) w7 g n f s dl ks ee wd rh sl cp i md2 id2 true) := ⟨a3.blk (IsS43.drew I6.out).1 hgh (by simp), (IsS43.drew I6.out).2⟩; have B7 := Aside0.mk a2; clear a1 a2 a3)))
                  go_upto_region 26 with (fail)
                  obtain ⟨lb, hlb⟩ : ∃ lb, listB (qt n s wd rh sl) (n * s) i md2 qu bb = lb := ⟨_, rfl⟩
                  have HL := Aside0.mk hlb
                  clear hlb
                  have y11 : w7.cell? ⟨h, 11, none⟩ = some (.int .i64 md2) := (blk_cell J7.out.1 11).trans rfl
                  have y12 : w7.cell? ⟨h, 12, none⟩ = some (.int .i64 id2) := (blk_cell J7.out.1 12).trans rfl
                  go_region_held3 (fun W => W.cell? ⟨h, 11, none⟩ = some (.int .i64 md2) ∧ W.cell? ⟨h, 12, none⟩ = some (.int .i64 id2) ∧ W.cell? (ad4.add k.toNat) = some (.bool bb) ∧ W.cell? (ad5.add k.toNat) = some (.int .i64 qu)) (go_keep) (first | (go_at_call 15; go_loud (refine (mode_ok g n f s dl ks ee wd rh sl cp i md2 id2 _ _ (IsS43.drew I7.out) (below_drew1 B7.out)).mono ?_; rintro en wq ⟨rfl, rfl⟩)) | (go_at_call 13; go_loud (refine (idle_ok g n f s dl ks ee wd rh sl cp i md2 id2 _ _ (IsS43.drew I7.out) (below_drew1 B7.out)).mono ?_; rintro en wq ⟨rfl, rfl⟩)) | (go_at_call 17; go_loud (refine (listen_to g n f s dl ks ee wd rh sl cp i md2 id2 qu bb lb _ _ (IsS43.drew I7.out) (below_drew1 B7.out) HK.out i0 i1 qu1 HL.out).mono ?_; rintro en w8 ⟨rfl, a1, a2, a3⟩; have x3_8 : w8.cell? (ad3.add k.toNat) = some (.int .i64 x) := HOLD.out _ a2 _ _ X3.out; have x4_8 : w8.cell? (ad4.add k.toNat) = some (.bool bb) := HOLD.out _ a2 _ _ X4.out; have x5_8 : w8.cell? (ad5.add k.toNat) = some (.int .i64 qu) := HOLD.out _ a2 _ _ X5.out; have I8 := Aside0.mk a1; have J8 : Aside0 (IsS53 (w.alloc (.cells #[.int .i64 n, .int .i64 f, .int .i64 s, .int .i64 dl, .int .i64 ks, .int .i64 ee, .int .i64 wd, .int .i64 rh, .int .i64 sl, .int .i64 cp] 23 (0, 0))) w8 h n f s dl ks ee wd rh sl cp i md2 id2) := ⟨a3.blk (IsS53.drew J7.out).1 hhg (by simp), (IsS53.drew J7.out).2⟩; have B8 := Aside0.mk a2; clear a1 a2 a3; have z11 : w8.cell? ⟨h, 11, none⟩ = some (.int .i64 md2) := (blk_cell J8.out.1 11).trans rfl; have z12 : w8.cell? ⟨h, 12, none⟩ = some (.int .i64 id2) := (blk_cell J8.out.1 12).trans rfl)) | (go_at_call 22; go_loud (refine (rlisten_to h n f s dl ks ee wd rh sl cp i md2 id2 qu bb lb _ _ J8.out B8.out HK.out i0 i1 qu1 HL.out).mono ?_; rintro en w9 ⟨rfl, a1, a2, a3⟩; have x3_9 : w9.cell? (ad3.add k.toNat) = some (.int .i64 x) := HOLD.out _ a2 _ _ X3.out; have x4_9 : w9.cell? (ad4.add k.toNat) = some (.bool bb) := HOLD.out _ a2 _ _ X4.out; have x5_9 : w9.cell? (ad5.add k.toNat) = some (.int .i64 qu) := HOLD.out _ a2 _ _ X5.out; have J9 := Aside0.mk a1; have I9 : Aside0 (IsS43 (w.alloc (.cells #[.int .i64 n, .int .i64 f, .int .i64 s, .int .i64 dl, .int .i64 ks, .int .i64 ee, .int .i64 wd, .int .i64 rh, .int .i64 sl, .int .i64 cp] 23 (0, 0))) w9 g n f s dl ks ee wd rh sl cp i md2 id2 true) := ⟨a3.blk I8.out.1 hgh (by simp), I8.out.2⟩; have B9 := Aside0.mk a2; clear a1 a2 a3; have u11 : w9.cell? ⟨h, 11, none⟩ = some (.int .i64 md2) := (blk_cell J9.out.1 11).trans rfl; have u12 : w9.cell? ⟨h, 12, none⟩ = some (.int .i64 id2) := (blk_cell J9.out.1 12).trans rfl)))
                  go_wp2
                  go_roundw
                  case rel => exact ⟨k + 1, md2, id2, by go_num, by omega, by omega, by omega, by omega, by omega, by omega, I9, J9, B9⟩
                  case measure => simp [intOf]; omega
            · have c8b : decide (k < 300) = false := decide_eq_false c8
              go_wp2_with (first | (go_at_call 9; go_loud (refine (awake_ok _).mono ?_; rintro en w8 ⟨rfl, hb2⟩; have HB2 := Aside0.mk (below_step (below_weaken (below_alloc (Below.refl _ _) (.cells #[.int .i64 n, .int .i64 f, .int .i64 s, .int .i64 dl, .int .i64 ks, .int .i64 ee, .int .i64 wd, .int .i64 rh, .int .i64 sl, .int .i64 cp] 23 (0, 0))) (by simp) B5.out) hb2); clear hb2)))
              go_ret
              exact ⟨rfl, HB2.out⟩
          · have c9b : decide (k < (l5.length : Int)) = false := decide_eq_false c9
            go_wp2_with (first | (go_at_call 9; go_loud (refine (awake_ok _).mono ?_; rintro en w8 ⟨rfl, hb2⟩; have HB2 := Aside0.mk (below_step (below_weaken (below_alloc (Below.refl _ _) (.cells #[.int .i64 n, .int .i64 f, .int .i64 s, .int .i64 dl, .int .i64 ks, .int .i64 ee, .int .i64 wd, .int .i64 rh, .int .i64 sl, .int .i64 cp] 23 (0, 0))) (by simp) B5.out) hb2); clear hb2)))
            go_ret
            exact ⟨rfl, HB2.out⟩
        · have c7b : decide (k < (l4.length : Int)) = false := decide_eq_false c7
          go_wp2_with (first | (go_at_call 9; go_loud (refine (awake_ok _).mono ?_; rintro en w8 ⟨rfl, hb2⟩; have HB2 := Aside0.mk (below_step (below_weaken (below_alloc (Below.refl _ _) (.cells #[.int .i64 n, .int .i64 f, .int .i64 s, .int .i64 dl, .int .i64 ks, .int .i64 ee, .int .i64 wd, .int .i64 rh, .int .i64 sl, .int .i64 cp] 23 (0, 0))) (by simp) B5.out) hb2); clear hb2)))
          go_ret
          exact ⟨rfl, HB2.out⟩
      · have c6b : decide (k < (l3.length : Int)) = false := decide_eq_false c6
        go_wp2_with (first | (go_at_call 9; go_loud (refine (awake_ok _).mono ?_; rintro en w8 ⟨rfl, hb2⟩; have HB2 := Aside0.mk (below_step (below_weaken (below_alloc (Below.refl _ _) (.cells #[.int .i64 n, .int .i64 f, .int .i64 s, .int .i64 dl, .int .i64 ks, .int .i64 ee, .int .i64 wd, .int .i64 rh, .int .i64 sl, .int .i64 cp] 23 (0, 0))) (by simp) B5.out) hb2); clear hb2)))
        go_ret
        exact ⟨rfl, HB2.out⟩
    · have c5b : decide (k < (l2.length : Int)) = false := decide_eq_false c5
      go_wp2_with (first | (go_at_call 9; go_loud (refine (awake_ok _).mono ?_; rintro en w8 ⟨rfl, hb2⟩; have HB2 := Aside0.mk (below_step (below_weaken (below_alloc (Below.refl _ _) (.cells #[.int .i64 n, .int .i64 f, .int .i64 s, .int .i64 dl, .int .i64 ks, .int .i64 ee, .int .i64 wd, .int .i64 rh, .int .i64 sl, .int .i64 cp] 23 (0, 0))) (by simp) B5.out) hb2); clear hb2)))
      go_ret
      exact ⟨rfl, HB2.out⟩
theorem plays_any (A2 A3 A4 A5 : Option Addr) (c2 c3 c4 c5 : Nat) (l2 l3 : List Int) (l4 : List Bool) (l5 : List Int) (n f s dl ks ee wd rh sl cp i : Int) (w : World) (hr2 : Kd.C (Kd.int .u8) w A2 l2.length l2) (hr3 : Kd.C (Kd.int .i64) w A3 l3.length l3) (hr4 : Rd.BoolsAt w A4 l4) (hr5 : Kd.C (Kd.int .i64) w A5 l5.length l5)
    (hw2 : ∀ x ∈ l2, (Lit.int .u8 x).wf = true) (hw3 : ∀ x ∈ l3, (Lit.int .i64 x).wf = true) (hw5 : ∀ x ∈ l5, (Lit.int .i64 x).wf = true) (hl2 : l2.length ≤ maxLen) (hl3 : l3.length ≤ maxLen) (hl4 : l4.length ≤ maxLen) (hl5 : l5.length ≤ maxLen) :
    Calls Try.prog 7 #[.agg #[.int .i64 n, .int .i64 f, .int .i64 s, .int .i64 dl, .int .i64 ks, .int .i64 ee, .int .i64 wd, .int .i64 rh, .int .i64 sl, .int .i64 cp], .int .i64 i, .slice A2 l2.length c2, .slice A3 l3.length c3, .slice A4 l4.length c4, .slice A5 l5.length c5] w fun en w' => en = .returned (.bool true) ∧ Below w.heap.size w w' := by
  by_cases h : Ok n f s dl ks ee wd rh sl cp ∧ 0 ≤ i ∧ i < n
  · exact plays_good A2 A3 A4 A5 c2 c3 c4 c5 l2 l3 l4 l5 n f s dl ks ee wd rh sl cp i w hr2 hr3 hr4 hr5 hw2 hw3 hw5 hl2 hl3 hl4 hl5 h.1 h.2.1 h.2.2
  · exact plays_bad A2 A3 A4 A5 c2 c3 c4 c5 l2 l3 l4 l5 n f s dl ks ee wd rh sl cp i w h
end Go.Proofs.Ytiiaooaigeenoaa.ModeE
