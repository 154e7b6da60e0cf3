/- Active is near. -/
import Derived.Test.YtiiaooaigeenoaaProg
import Derived.Below
import Derived.Deep.Draws
import Derived.Deep.AppendLies
import Derived.Maps.AppendAt
import Derived.OwnWalk
import Derived.Laws.BytesArg
import Derived.Laws.MakeOwn
import Derived.Laws.OwnMore
import Derived.Deep.OwnRows
import Derived.Tactics
import Derived.Lib.ConvBytes
import Derived.Laws.Slices
import Derived.WalkKit
import Derived.KernelRfl
import Derived.RowKit3
import Derived.Deep.LoopGhost
import Derived.Deep.QuietTactic
import Derived.BigQuiet
import Derived.WideLaws
import Derived.Deep.DeepCutAuto
import Derived.Deep.CutBlock
import Derived.Deep.RegionHeld3
import Derived.Laws.Rows
import Derived.Lib.AppendStr
import Derived.ArgAppend
import Derived.Laws.IdiomCopy
import Derived.OrdersHeld
import Derived.Laws.BitsLemmas
import Derived.RowKit
import Derived.RegionTactic
import Derived.ChangeAlike
import Derived.Outline
import Derived.LoopTactic
import Derived.WalkSpells
import Derived.WalkLawsBesides
import Derived.Lib.Hide
import Derived.StillTailTactics
import Derived.Deep.RegionWith
import Derived.Deep.RegionLaw
import Derived.Deep.DeepFit
import Derived.Deep.DeepMust
import Derived.Test.YtiiaooaigeenoaaWWords
import Derived.Test.YtiiaooaigeenoaaWLast
import Derived.Test.YtiiaooaigeenoaaWTab
import Derived.Test.YtiiaooaigeenoaaWFour
import Derived.Test.YtiiaooaigeenoaaWQPut
import Derived.Test.YtiiaooaigeenoaaWApart
import Derived.Test.YtiiaooaigeenoaaWArr
import Derived.Test.YtiiaooaigeenoaaWZeros
import Derived.Test.YtiiaooaigeenoaaWFoot
import Derived.Test.YtiiaooaigeenoaaWKept
import Derived.Test.YtiiaooaigeenoaaWShare
import Derived.Test.YtiiaooaigeenoaaWN
import Derived.Test.YtiiaooaigeenoaaWFootNe
import Derived.Test.YtiiaooaigeenoaaWAt
import Derived.Test.YtiiaooaigeenoaaWEqStruct
import Derived.Test.YtiiaooaigeenoaaWRepsOne
import Derived.Test.YtiiaooaigeenoaaWInv
import Derived.Test.YtiiaooaigeenoaaWInvWords
import Derived.Test.YtiiaooaigeenoaaWGuard
import Derived.Test.YtiiaooaigeenoaaWNEv
import Derived.Test.YtiiaooaigeenoaaWMore
import Derived.Test.YtiiaooaigeenoaaModeA
import Derived.Test.YtiiaooaigeenoaaRd
import Derived.OpenShut
namespace Go.Proofs.Ytiiaooaigeenoaa.ModeC
open Go.RowKit Go.Proofs.YtiiaooaigeenoaaW.PrintWords Go.Proofs.YtiiaooaigeenoaaW.PrintLast Go.Proofs.YtiiaooaigeenoaaW.PrintMore 
attribute [local go_sem] max2_int min2_int max_two min_two max_three min_three max_four min_four
set_option linter.unusedVariables false
set_option linter.unusedSimpArgs false
open Go.Proofs.Ytiiaooaigeenoaa.QBase Go.Proofs.Ytiiaooaigeenoaa.Sch Go.Proofs.Ytiiaooaigeenoaa.Mode1 Go.Proofs.Ytiiaooaigeenoaa.Mode2 Go.Proofs.Ytiiaooaigeenoaa.Mode3 Go.Proofs.Ytiiaooaigeenoaa.Mode4 Go.Proofs.Ytiiaooaigeenoaa.Mode7 Go.Proofs.Ytiiaooaigeenoaa.ModeA
theorem rd_bd64 (l : List Int) (i : Int) (h : ∀ x ∈ l, (Lit.int .i64 x).wf = true) (h0 : 0 ≤ i) (h1 : i < l.length) : -9223372036854775808 ≤ rd l i ∧ rd l i ≤ 9223372036854775807 := by
  unfold rd
  have hi : i.toNat < l.length := by omega
  rw [List.getD_eq_getElem?_getD, List.getElem?_eq_getElem hi]
  exact bounds_i64 (h _ (List.getElem_mem hi))
theorem rd_bdu8 (l : List Int) (i : Int) (h : ∀ x ∈ l, (Lit.int .u8 x).wf = true) (h0 : 0 ≤ i) (h1 : i < l.length) : 0 ≤ rd l i ∧ rd l i ≤ 255 := by
  unfold rd
  have hi : i.toNat < l.length := by omega
  rw [List.getD_eq_getElem?_getD, List.getElem?_eq_getElem hi]
  exact bounds_u8 (h _ (List.getElem_mem hi))
theorem bools_at {W : World} {A : Option Addr} {l : List Bool} (h : Rd.BoolsAt W A l) (i : Int) (h0 : 0 ≤ i) (h1 : i < l.length) : ∃ a b, A = some a ∧ W.cell? (a.add i.toNat) = some (.bool b) := by
  obtain ⟨a, e, hc⟩ := h i.toNat (by omega)
  exact ⟨a, _, e, hc⟩
theorem watch_to (g : Nat) (n f s dl ks ee wd rh sl cp i md id near : Int) (z w : World) (hI : IsS43 z w g n f s dl ks ee wd rh sl cp i md id true) (hB : Below z.heap.size z w) (hk : Ok n f s dl ks ee wd rh sl cp) (m0 : 0 ≤ md) (m1 : md ≤ 4) (a : Int) (h : watchF n f md near = a) :
    Calls Try.prog 14 #[.pointer (some ⟨g, 0, none⟩), .int .i64 near] w fun en w' => en = .returned (.tuple #[.int .i64 a, .int .i64 0]) ∧ IsS43 z w' g n f s dl ks ee wd rh sl cp i a id true ∧ Below z.heap.size z w' ∧ KeepBut w w' g none := by
  have := watch_any g n f s dl ks ee wd rh sl cp i md id near z w hI hB hk m0 m1
  rw [h] at this
  exact this
def ActI (n f last md : Int) : Prop := 1 ≤ md ∧ md ≤ 4 ∧ (3 ≤ md → n - f ≤ last)
theorem act_set (n f last md id r : Int) (h : ActI n f last md) (j0 : 0 ≤ id) : ActI n f last (setF md id r).2.1 ∧ 0 ≤ (setF md id r).2.2 ∧ (setF md id r).2.2 ≤ id := by
  unfold setF
  split
  · exact ⟨h, j0, Int.le_refl _⟩
  · split
    · exact ⟨⟨by show (1 : Int) ≤ 2; decide, by show (2 : Int) ≤ 4; decide, by intro h3; exact absurd h3 (by show ¬ (3 : Int) ≤ 2; decide)⟩, Int.le_refl _, j0⟩
    · exact ⟨h, j0, Int.le_refl _⟩
theorem act_watch (n f last md near : Int) (h : ActI n f last md) : ActI n f near (watchF n f md near) := by
  unfold ActI watchF at *
  split <;> omega
theorem act_round (p n f last md id near : Int) (ag : Bool) (h : ActI n f last md) (j0 : 0 ≤ id) : ∃ a b, roundF p n f md id near ag = (a, b) ∧ ActI n f near a ∧ 0 ≤ b ∧ b ≤ id + 1 := by
  unfold ActI at *
  unfold roundF
  split
  · exact ⟨md, id, rfl, by omega, by omega, by omega⟩
  · have hs : 2 ≤ stepF n f md near ag ∧ stepF n f md near ag ≤ 4 ∧ (3 ≤ stepF n f md near ag → n - f ≤ near) := by unfold stepF; repeat' split <;> omega
    obtain ⟨x, hx⟩ : ∃ x, stepF n f md near ag = x := ⟨_, rfl⟩
    rw [hx] at hs ⊢
    unfold waitF
    split
    · exact ⟨4, 0, rfl, by omega, by omega, by omega⟩
    · split
      · exact ⟨1, id + 1, rfl, by omega, by omega, by omega⟩
      · exact ⟨x, id + 1, rfl, by omega, by omega, by omega⟩
set_option maxRecDepth 100000 in
set_option maxHeartbeats 4000000 in
theorem act_bad (n f s dl ks ee wd rh sl cp i : Int) (A2 A3 A4 : Option Addr) (c2 c3 c4 : Nat) (l2 l3 : List Int) (l4 : List Bool) (w : World) (h : ¬ (Ok n f s dl ks ee wd rh sl cp ∧ 0 ≤ i ∧ i < n)) : Calls Try.prog 5 #[.agg #[.int .i64 n, .int .i64 f, .int .i64 s, .int .i64 dl, .int .i64 ks, .int .i64 ee, .int .i64 wd, .int .i64 rh, .int .i64 sl, .int .i64 cp], .int .i64 i, .slice A2 l2.length c2, .slice A3 l3.length c3, .slice A4 l4.length c4] w fun en w' => en = .returned (.bool true) ∧ Below w.heap.size w w' := by
  have HN := Aside0.mk h
  clear h
  go_enter Try.func5, Try.ntmps5
  go_wp2_with (first | (go_at_call 8; go_loud (refine (new_not n f s dl ks ee wd rh sl cp i _ HN.out).mono ?_; rintro en w1 ⟨rfl, hb1⟩; have HB1 := Aside0.mk (below_step (below_alloc (Below.refl _ _) (.cells #[.int .i64 n, .int .i64 f, .int .i64 s, .int .i64 dl, .int .i64 ks, .int .i64 ee, .int .i64 wd, .int .i64 rh, .int .i64 sl, .int .i64 cp] 23 (0, 0))) hb1); clear hb1)) | (go_at_call 9; go_loud (refine (awake_ok _).mono ?_; rintro en w2 ⟨rfl, hb2⟩; have HB2 := Aside0.mk (below_step HB1.out hb2); clear hb2)))
  go_ret
  exact ⟨rfl, HB2.out⟩
set_option maxRecDepth 100000 in
set_option maxHeartbeats 16000000 in
theorem act_good (A2 A3 A4 : Option Addr) (c2 c3 c4 : Nat) (l2 l3 : List Int) (l4 : List Bool) (n f s dl ks ee wd rh sl cp i : Int) (w : World) (hr2 : Kd.C (Kd.int .u8) w A2 l2.length l2) (hr3 : Kd.C (Kd.int .i64) w A3 l3.length l3) (hr4 : Rd.BoolsAt w A4 l4)
    (hw2 : ∀ x ∈ l2, (Lit.int .u8 x).wf = true) (hw3 : ∀ x ∈ l3, (Lit.int .i64 x).wf = true) (hl2 : l2.length ≤ maxLen) (hl3 : l3.length ≤ maxLen) (hl4 : l4.length ≤ maxLen)
    (hk : Ok n f s dl ks ee wd rh sl cp) (i0 : 0 ≤ i) (i1 : i < n) : Calls Try.prog 5 #[.agg #[.int .i64 n, .int .i64 f, .int .i64 s, .int .i64 dl, .int .i64 ks, .int .i64 ee, .int .i64 wd, .int .i64 rh, .int .i64 sl, .int .i64 cp], .int .i64 i, .slice A2 l2.length c2, .slice A3 l3.length c3, .slice A4 l4.length c4] w fun en w' => en = .returned (.bool true) ∧ Below w.heap.size w w' := by
  obtain ⟨n0, n1, f0, f1⟩ := ok_n hk
  have HR2 := Aside0.mk hr2
  have HR3 := Aside0.mk hr3
  have HR4 := Aside0.mk hr4
  have HW2 := Aside0.mk hw2
  have HW3 := Aside0.mk hw3
  have HK := Aside0.mk hk
  unfold maxLen at hl2 hl3 hl4
  clear hr2 hr3 hr4 hw2 hw3 hk
  go_enter Try.func5, Try.ntmps5
  go_wp2_with (first | (go_at_call 8; go_loud (refine (new_yes n f s dl ks ee wd rh sl cp i _ HK.out i0 i1).mono ?_; rintro en w1 ⟨g, rfl, a1, a2⟩; have c0 : w1.cell? ⟨w.heap.size, 0, none⟩ = some (.int .i64 n) := (blk_cell (blk_below (blk_new w (.cells #[.int .i64 n, .int .i64 f, .int .i64 s, .int .i64 dl, .int .i64 ks, .int .i64 ee, .int .i64 wd, .int .i64 rh, .int .i64 sl, .int .i64 cp] 23 (0, 0))) a2) 0).trans rfl; have I1 := Aside0.mk a1; have B1 := Aside0.mk a2; clear a1 a2; have tok1 : True := trivial)))
  go_loopw [13, 14] (fun vl v wr => ∃ (k last md id : Int), vl = .int .i64 last ∧ v = .int .i64 k ∧ 0 ≤ k ∧ k ≤ 300 ∧ -9223372036854775808 ≤ last ∧ last ≤ 9223372036854775807 ∧ Aside0 (ActI n f last md) ∧ 0 ≤ id ∧ id ≤ k ∧ Aside0 (IsS43 (w.alloc (.cells #[.int .i64 n, .int .i64 f, .int .i64 s, .int .i64 dl, .int .i64 ks, .int .i64 ee, .int .i64 wd, .int .i64 rh, .int .i64 sl, .int .i64 cp] 23 (0, 0))) wr g n f s dl ks ee wd rh sl cp i md id true) ∧ Aside0 (Below (w.alloc (.cells #[.int .i64 n, .int .i64 f, .int .i64 s, .int .i64 dl, .int .i64 ks, .int .i64 ee, .int .i64 wd, .int .i64 rh, .int .i64 sl, .int .i64 cp] 23 (0, 0))).heap.size (w.alloc (.cells #[.int .i64 n, .int .i64 f, .int .i64 s, .int .i64 dl, .int .i64 ks, .int .i64 ee, .int .i64 wd, .int .i64 rh, .int .i64 sl, .int .i64 cp] 23 (0, 0))) wr)) (fun _ v _ => (300 - intOf v).toNat)
  case atStart => exact ⟨0, 0, 1, 0, rfl, rfl, by omega, by omega, by omega, by omega, ⟨by unfold ActI; omega⟩, by omega, by omega, I1, B1⟩
  case round =>
    obtain ⟨k, last, md, id, rfl, rfl, k0, k1, u0, u1, HA, d0, d1, I5, B5⟩ := hrel
    clear I1 B1 c0
    have hkk : id ≤ k := d1
    replace d1 : id ≤ 1000000 := by omega
    have hm5 : 0 ≤ md ∧ md ≤ 4 := by have := HA.out; unfold ActI at this; omega
    obtain ⟨m0, m1⟩ := hm5
    by_cases c5 : k < (l2.length : Int)
    · have c5b : decide (k < (l2.length : Int)) = true := decide_eq_true c5
      by_cases c6 : k < (l3.length : Int)
      · have c6b : decide (k < (l3.length : Int)) = true := decide_eq_true c6
        by_cases c7 : k < (l4.length : Int)
        · have c7b : decide (k < (l4.length : Int)) = true := decide_eq_true c7
          by_cases c8 : k < 300
          · have c8b : decide (k < 300) = true := decide_eq_true c8
            have hold : ∀ (a : Addr) (v : Value), w.cell? a = some v → wr.cell? a = some v := fun a v h => ((below_weaken (below_alloc (Below.refl w.heap.size w) (.cells #[.int .i64 n, .int .i64 f, .int .i64 s, .int .i64 dl, .int .i64 ks, .int .i64 ee, .int .i64 wd, .int .i64 rh, .int .i64 sl, .int .i64 cp] 23 (0, 0))) (by simp) B5.out).cell (World.block_lt_of_cell? w _ h)).trans h
            obtain ⟨ad2, e2, hx2⟩ := Kd.at_int HR2.out k k0 c5
            cases e2
            replace hx2 := hold _ _ hx2
            obtain ⟨ad3, e3, hx3⟩ := Kd.at_int HR3.out k k0 c6
            cases e3
            replace hx3 := hold _ _ hx3
            obtain ⟨ad4, bb, e4, hx4⟩ := bools_at HR4.out k k0 c7
            cases e4
            replace hx4 := hold _ _ hx4
            clear hold
            have hq := rd_bdu8 l2 k HW2.out k0 c5
            have hy := rd_bd64 l3 k HW3.out k0 c6
            obtain ⟨x, hx⟩ : ∃ x, rd l3 k = x := ⟨_, rfl⟩
            rw [hx] at hx3 hy
            clear hx
            obtain ⟨y0, y1⟩ := hy
            obtain ⟨q, hqq⟩ : ∃ q, rd l2 k = q := ⟨_, rfl⟩
            rw [hqq] at hx2 hq
            clear hqq
            obtain ⟨q0, q1⟩ := hq
            have h4 : q % 4 = 0 ∨ q % 4 = 1 ∨ (2 ≤ q % 4 ∧ q % 4 ≤ 3) := by omega
            rcases h4 with k4 | k4 | ⟨k4, k5⟩
            · go_wp2_with (first | (go_at_call 10; go_loud (refine (set_any g n f s dl ks ee wd rh sl cp i md id _ _ _ I5.out B5.out).mono ?_; rintro en w6 ⟨rfl, a1, a2, a3⟩; have cc := blk_below (blk_new w (.cells #[.int .i64 n, .int .i64 f, .int .i64 s, .int .i64 dl, .int .i64 ks, .int .i64 ee, .int .i64 wd, .int .i64 rh, .int .i64 sl, .int .i64 cp] 23 (0, 0))) a2; have kk0 : w6.cell? ⟨w.heap.size, 0, none⟩ = some (.int .i64 n) := (blk_cell cc 0).trans rfl; have kk1 : w6.cell? ⟨w.heap.size, 1, none⟩ = some (.int .i64 f) := (blk_cell cc 1).trans rfl; clear cc; have I6 := Aside0.mk a1; have B6 := Aside0.mk a2; clear a1 a2 a3)))
              have hs := act_set n f last md id (x.tmod 100) HA.out d0
              go_roundw
              case rel => exact ⟨k + 1, last, _, _, rfl, by go_num, by omega, by omega, by omega, by omega, ⟨hs.1⟩, hs.2.1, by omega, I6, B6⟩
              case measure => simp [intOf]; omega
            · have ha := act_watch n f last md x HA.out
              obtain ⟨md2, hE⟩ : ∃ md2, watchF n f md x = md2 := ⟨_, rfl⟩
              rw [hE] at ha
              have HE := Aside0.mk hE
              have HA2 := Aside0.mk ha
              obtain ⟨p1, p2, p3⟩ := ha
              clear hE
              by_cases h3 : 3 ≤ md2
              · replace p3 := p3 h3
                go_wp2_with (first | (go_at_call 14; go_loud (refine (watch_to g n f s dl ks ee wd rh sl cp i md id x _ _ I5.out B5.out HK.out m0 m1 md2 HE.out).mono ?_; rintro en w6 ⟨rfl, a1, a2, a3⟩; have cc := blk_below (blk_new w (.cells #[.int .i64 n, .int .i64 f, .int .i64 s, .int .i64 dl, .int .i64 ks, .int .i64 ee, .int .i64 wd, .int .i64 rh, .int .i64 sl, .int .i64 cp] 23 (0, 0))) a2; have kk0 : w6.cell? ⟨w.heap.size, 0, none⟩ = some (.int .i64 n) := (blk_cell cc 0).trans rfl; have kk1 : w6.cell? ⟨w.heap.size, 1, none⟩ = some (.int .i64 f) := (blk_cell cc 1).trans rfl; clear cc; have I6 := Aside0.mk a1; have B6 := Aside0.mk a2; clear a1 a2 a3)) | (go_at_call 15; go_loud (refine (mode_ok g n f s dl ks ee wd rh sl cp i md2 id _ _ I6.out B6.out).mono ?_; rintro en w7 ⟨rfl, e7⟩; rw [e7]; clear e7)))
                go_roundw
                case rel => exact ⟨k + 1, x, md2, id, rfl, by go_num, by omega, by omega, by omega, by omega, HA2, by omega, by omega, I6, B6⟩
                case measure => simp [intOf]; omega
              · clear p3
                go_wp2_with (first | (go_at_call 14; go_loud (refine (watch_to g n f s dl ks ee wd rh sl cp i md id x _ _ I5.out B5.out HK.out m0 m1 md2 HE.out).mono ?_; rintro en w6 ⟨rfl, a1, a2, a3⟩; have cc := blk_below (blk_new w (.cells #[.int .i64 n, .int .i64 f, .int .i64 s, .int .i64 dl, .int .i64 ks, .int .i64 ee, .int .i64 wd, .int .i64 rh, .int .i64 sl, .int .i64 cp] 23 (0, 0))) a2; have kk0 : w6.cell? ⟨w.heap.size, 0, none⟩ = some (.int .i64 n) := (blk_cell cc 0).trans rfl; have kk1 : w6.cell? ⟨w.heap.size, 1, none⟩ = some (.int .i64 f) := (blk_cell cc 1).trans rfl; clear cc; have I6 := Aside0.mk a1; have B6 := Aside0.mk a2; clear a1 a2 a3)) | (go_at_call 15; go_loud (refine (mode_ok g n f s dl ks ee wd rh sl cp i md2 id _ _ I6.out B6.out).mono ?_; rintro en w7 ⟨rfl, e7⟩; rw [e7]; clear e7)))
                go_roundw
                case rel => exact ⟨k + 1, x, md2, id, rfl, by go_num, by omega, by omega, by omega, by omega, HA2, by omega, by omega, I6, B6⟩
                case measure => simp [intOf]; omega
            · obtain ⟨md2, id2, hE, ha, z0, z1⟩ := act_round (pat n s dl wd rh sl i) n f last md id x bb HA.out d0
              have HE := Aside0.mk hE
              have HA2 := Aside0.mk ha
              obtain ⟨p1, p2, p3⟩ := ha
              clear hE
              by_cases h3 : 3 ≤ md2
              · replace p3 := p3 h3
                go_upto_region 13 with (fail)
                go_still_tail 9, (by kernel_rfl)
                go_wp2_with (first | (go_at_call 12; go_loud (refine (round_to g n f s dl ks ee wd rh sl cp i md id x bb _ _ (IsS43.drew I5.out) (below_drew1 B5.out) HK.out i0 i1 d0 d1 m0 m1 md2 id2 HE.out).mono ?_; rintro en w6 ⟨rfl, a1, a2, a3⟩; have cc := blk_below (blk_new w (.cells #[.int .i64 n, .int .i64 f, .int .i64 s, .int .i64 dl, .int .i64 ks, .int .i64 ee, .int .i64 wd, .int .i64 rh, .int .i64 sl, .int .i64 cp] 23 (0, 0))) a2; have kk0 : w6.cell? ⟨w.heap.size, 0, none⟩ = some (.int .i64 n) := (blk_cell cc 0).trans rfl; have kk1 : w6.cell? ⟨w.heap.size, 1, none⟩ = some (.int .i64 f) := (blk_cell cc 1).trans rfl; clear cc; have I6 := Aside0.mk a1; have B6 := Aside0.mk a2; clear a1 a2 a3)) | (go_at_call 15; go_loud (refine (mode_ok g n f s dl ks ee wd rh sl cp i md2 id2 _ _ I6.out B6.out).mono ?_; rintro en w7 ⟨rfl, e7⟩; rw [e7]; clear e7)))
                go_roundw
                case rel => exact ⟨k + 1, x, md2, id2, rfl, by go_num, by omega, by omega, by omega, by omega, HA2, by omega, by omega, I6, B6⟩
                case measure => simp [intOf]; omega
              · clear p3
                go_upto_region 13 with (fail)
                go_still_tail 9, (by kernel_rfl)
                go_wp2_with (first | (go_at_call 12; go_loud (refine (round_to g n f s dl ks ee wd rh sl cp i md id x bb _ _ (IsS43.drew I5.out) (below_drew1 B5.out) HK.out i0 i1 d0 d1 m0 m1 md2 id2 HE.out).mono ?_; rintro en w6 ⟨rfl, a1, a2, a3⟩; have cc := blk_below (blk_new w (.cells #[.int .i64 n, .int .i64 f, .int .i64 s, .int .i64 dl, .int .i64 ks, .int .i64 ee, .int .i64 wd, .int .i64 rh, .int .i64 sl, .int .i64 cp] 23 (0, 0))) a2; have kk0 : w6.cell? ⟨w.heap.size, 0, none⟩ = some (.int .i64 n) := (blk_cell cc 0).trans rfl; have kk1 : w6.cell? ⟨w.heap.size, 1, none⟩ = some (.int .i64 f) := (blk_cell cc 1).trans rfl; clear cc; have I6 := Aside0.mk a1; have B6 := Aside0.mk a2; clear a1 a2 a3)) | (go_at_call 15; go_loud (refine (mode_ok g n f s dl ks ee wd rh sl cp i md2 id2 _ _ I6.out B6.out).mono ?_; rintro en w7 ⟨rfl, e7⟩; rw [e7]; clear e7)))
                go_roundw
                case rel => exact ⟨k + 1, x, md2, id2, rfl, by go_num, by omega, by omega, by omega, by omega, HA2, by omega, by omega, I6, B6⟩
                case measure => simp [intOf]; omega
          · have c8b : decide (k < 300) = false := decide_eq_false c8
            go_wp2_with (first | (go_at_call 9; go_loud (refine (awake_ok _).mono ?_; rintro en w8 ⟨rfl, hb2⟩; have HB2 := Aside0.mk (below_step (below_weaken (below_alloc (Below.refl _ _) (.cells #[.int .i64 n, .int .i64 f, .int .i64 s, .int .i64 dl, .int .i64 ks, .int .i64 ee, .int .i64 wd, .int .i64 rh, .int .i64 sl, .int .i64 cp] 23 (0, 0))) (by simp) B5.out) hb2); clear hb2)))
            go_ret
            exact ⟨rfl, HB2.out⟩
        · have c7b : decide (k < (l4.length : Int)) = false := decide_eq_false c7
          go_wp2_with (first | (go_at_call 9; go_loud (refine (awake_ok _).mono ?_; rintro en w8 ⟨rfl, hb2⟩; have HB2 := Aside0.mk (below_step (below_weaken (below_alloc (Below.refl _ _) (.cells #[.int .i64 n, .int .i64 f, .int .i64 s, .int .i64 dl, .int .i64 ks, .int .i64 ee, .int .i64 wd, .int .i64 rh, .int .i64 sl, .int .i64 cp] 23 (0, 0))) (by simp) B5.out) hb2); clear hb2)))
          go_ret
          exact ⟨rfl, HB2.out⟩
      · have c6b : decide (k < (l3.length : Int)) = false := decide_eq_false c6
        go_wp2_with (first | (go_at_call 9; go_loud (refine (awake_ok _).mono ?_; rintro en w8 ⟨rfl, hb2⟩; have HB2 := Aside0.mk (below_step (below_weaken (below_alloc (Below.refl _ _) (.cells #[.int .i64 n, .int .i64 f, .int .i64 s, .int .i64 dl, .int .i64 ks, .int .i64 ee, .int .i64 wd, .int .i64 rh, .int .i64 sl, .int .i64 cp] 23 (0, 0))) (by simp) B5.out) hb2); clear hb2)))
        go_ret
        exact ⟨rfl, HB2.out⟩
    · have c5b : decide (k < (l2.length : Int)) = false := decide_eq_false c5
      go_wp2_with (first | (go_at_call 9; go_loud (refine (awake_ok _).mono ?_; rintro en w8 ⟨rfl, hb2⟩; have HB2 := Aside0.mk (below_step (below_weaken (below_alloc (Below.refl _ _) (.cells #[.int .i64 n, .int .i64 f, .int .i64 s, .int .i64 dl, .int .i64 ks, .int .i64 ee, .int .i64 wd, .int .i64 rh, .int .i64 sl, .int .i64 cp] 23 (0, 0))) (by simp) B5.out) hb2); clear hb2)))
      go_ret
      exact ⟨rfl, HB2.out⟩
theorem active_any (A2 A3 A4 : Option Addr) (c2 c3 c4 : Nat) (l2 l3 : List Int) (l4 : List Bool) (n f s dl ks ee wd rh sl cp i : Int) (w : World) (hr2 : Kd.C (Kd.int .u8) w A2 l2.length l2) (hr3 : Kd.C (Kd.int .i64) w A3 l3.length l3) (hr4 : Rd.BoolsAt w A4 l4)
    (hw2 : ∀ x ∈ l2, (Lit.int .u8 x).wf = true) (hw3 : ∀ x ∈ l3, (Lit.int .i64 x).wf = true) (hl2 : l2.length ≤ maxLen) (hl3 : l3.length ≤ maxLen) (hl4 : l4.length ≤ maxLen) :
    Calls Try.prog 5 #[.agg #[.int .i64 n, .int .i64 f, .int .i64 s, .int .i64 dl, .int .i64 ks, .int .i64 ee, .int .i64 wd, .int .i64 rh, .int .i64 sl, .int .i64 cp], .int .i64 i, .slice A2 l2.length c2, .slice A3 l3.length c3, .slice A4 l4.length c4] w fun en w' => en = .returned (.bool true) ∧ Below w.heap.size w w' := by
  by_cases h : Ok n f s dl ks ee wd rh sl cp ∧ 0 ≤ i ∧ i < n
  · exact act_good A2 A3 A4 c2 c3 c4 l2 l3 l4 n f s dl ks ee wd rh sl cp i w hr2 hr3 hr4 hw2 hw3 hl2 hl3 hl4 h.1 h.2.1 h.2.2
  · exact act_bad n f s dl ks ee wd rh sl cp i A2 A3 A4 c2 c3 c4 l2 l3 l4 w h
end Go.Proofs.Ytiiaooaigeenoaa.ModeC
