/- Once a round. -/
import Derived.Test.YtfaikkhnlioajaaProg
import Derived.Below
import Derived.Deep.Draws
import Derived.Deep.AppendLies
import Derived.Maps.AppendAt
import Derived.OwnWalk
import Derived.Laws.BytesArg
import Derived.Laws.MakeOwn
import Derived.Laws.OwnMore
import Derived.Deep.OwnRows
import Derived.Tactics
import Derived.Lib.ConvBytes
import Derived.Laws.Slices
import Derived.WalkKit
import Derived.KernelRfl
import Derived.RowKit3
import Derived.Deep.LoopGhost
import Derived.Deep.QuietTactic
import Derived.BigQuiet
import Derived.WideLaws
import Derived.Deep.DeepCutAuto
import Derived.Deep.CutBlock
import Derived.Deep.RegionHeld3
import Derived.Laws.Rows
import Derived.Lib.AppendStr
import Derived.ArgAppend
import Derived.Laws.IdiomCopy
import Derived.OrdersHeld
import Derived.Laws.BitsLemmas
import Derived.RowKit
import Derived.RegionTactic
import Derived.ChangeAlike
import Derived.Outline
import Derived.LoopTactic
import Derived.WalkSpells
import Derived.WalkLawsBesides
import Derived.Lib.Hide
import Derived.StillTailTactics
import Derived.Deep.RegionWith
import Derived.Deep.RegionLaw
import Derived.Deep.DeepFit
import Derived.Deep.DeepMust
import Derived.Test.YtfaikkhnlioajaaWWords
import Derived.Test.YtfaikkhnlioajaaWLast
import Derived.Test.YtfaikkhnlioajaaWTab
import Derived.Test.YtfaikkhnlioajaaWFour
import Derived.Test.YtfaikkhnlioajaaWQPut
import Derived.Test.YtfaikkhnlioajaaWApart
import Derived.Test.YtfaikkhnlioajaaWArr
import Derived.Test.YtfaikkhnlioajaaWZeros
import Derived.Test.YtfaikkhnlioajaaWFoot
import Derived.Test.YtfaikkhnlioajaaWKept
import Derived.Test.YtfaikkhnlioajaaWShare
import Derived.Test.YtfaikkhnlioajaaWN
import Derived.Test.YtfaikkhnlioajaaWFootNe
import Derived.Test.YtfaikkhnlioajaaWAt
import Derived.Test.YtfaikkhnlioajaaWEqStruct
import Derived.Test.YtfaikkhnlioajaaWRepsOne
import Derived.Test.YtfaikkhnlioajaaWInv
import Derived.Test.YtfaikkhnlioajaaWInvWords
import Derived.Test.YtfaikkhnlioajaaWGuard
import Derived.Test.YtfaikkhnlioajaaWNEv
import Derived.Test.YtfaikkhnlioajaaWMore
import Derived.Test.YtfaikkhnlioajaaGd1
import Derived.OpenShut
namespace Go.Proofs.Ytfaikkhnlioajaa.Gd2
open Go.RowKit Go.Proofs.YtfaikkhnlioajaaW.PrintWords Go.Proofs.YtfaikkhnlioajaaW.PrintLast Go.Proofs.YtfaikkhnlioajaaW.PrintMore 
attribute [local go_sem] max2_int min2_int max_two min_two max_three min_three max_four min_four
set_option linter.unusedVariables false
set_option linter.unusedSimpArgs false
open Go.Proofs.Ytfaikkhnlioajaa.QBase Go.Proofs.Ytfaikkhnlioajaa.Sch Go.Proofs.Ytfaikkhnlioajaa.Plc Go.Proofs.Ytfaikkhnlioajaa.Gd1
theorem ok_n {n f s dl ks ee wd rh sl cp : Int} (hk : Ok n f s dl ks ee wd rh sl cp) : 1 ≤ n ∧ n ≤ 8 ∧ 0 ≤ f ∧ f ≤ 8 := by unfold Ok at hk; omega
set_option maxRecDepth 100000 in
set_option maxHeartbeats 4000000 in
theorem awake_ok (w : World) : Calls Try.prog 12 #[] w fun en w' => en = .returned (.bool true) ∧ Below w.heap.size w w' := by
  have hk : Ok 3 0 400 1 16 400 400 1 2 8 := by unfold Ok; omega
  have hp : sched_Place.f 3 3 0 400 1 16 400 400 1 2 8 1650 = some (1, 1, 50, 0) := by rw [place_in 0 3 0 400 1 16 400 400 1 2 8 1650 hk]; rfl
  have HK := Aside0.mk hk
  have HP := Aside0.mk hp
  clear hk hp
  go_enter Try.func12, Try.ntmps12
  go_wp2_with (first | (go_at_call 47; go_loud (refine (carillonlaw19_usual.calls 3 0 400 1 16 400 400 1 2 8 _ rfl).mono ?_; rintro en w1 ⟨rfl, hb1⟩; have HB1 := Aside0.mk hb1; clear hb1)) | (go_at_call 11; go_loud (refine (new_yes 3 0 400 1 16 400 400 1 2 8 1 _ HK.out (by omega) (by omega)).mono ?_; rintro en w2 ⟨g, bm, rfl, hI2, _, _, hB2⟩; have HI2 := Aside0.mk hI2; have HB2 := Aside0.mk hB2; clear hI2 hB2)) | (go_at_call 13; go_loud (refine (data_any g bm 3 0 400 1 16 400 400 1 2 8 1 (-1) 0 1650 1 1 50 0 _ _ HI2.out HB2.out HP.out 1 0 1 rfl).mono ?_; rintro en w4 ⟨rfl, hI4, hB4, hK4⟩; have HB4 := Aside0.mk hB4; clear hI4 hB4 hK4)))
  go_ret
  exact ⟨rfl, HB1.out.trans (HB4.out.mono HB1.out.size)⟩
theorem dataF_cases (i la le r p e x y z1 : Int) (h : dataF i la le r p e = (x, y, z1)) : (y ≠ 0 ∧ la = z1) ∨ (0 = e ∧ i = p ∧ la < r ∧ le ≤ r ∧ r = x ∧ 0 = y ∧ r = z1) := by
  unfold dataF at h
  split at h
  · cases h; exact Or.inl ⟨by assumption, rfl⟩
  · split at h
    · cases h; exact Or.inl ⟨by decide, rfl⟩
    · split at h
      · cases h; exact Or.inl ⟨by decide, rfl⟩
      · cases h; exact Or.inr ⟨by omega, by omega, by omega, by omega, rfl, rfl, rfl⟩
theorem rd_bd64 (l : List Int) (i : Int) (h : ∀ x ∈ l, (Lit.int .i64 x).wf = true) (h0 : 0 ≤ i) (h1 : i < l.length) : -9223372036854775808 ≤ rd l i ∧ rd l i ≤ 9223372036854775807 := by
  unfold rd
  have hi : i.toNat < l.length := by omega
  rw [List.getD_eq_getElem?_getD, List.getElem?_eq_getElem hi]
  exact bounds_i64 (h _ (List.getElem_mem hi))
set_option maxRecDepth 100000 in
set_option maxHeartbeats 4000000 in
theorem once_bad (n f s dl ks ee wd rh sl cp i : Int) (A2 : Option Addr) (c2 : Nat) (l2 : List Int) (w : World) (h : ¬ (Ok n f s dl ks ee wd rh sl cp ∧ 0 ≤ i ∧ i < n)) : Calls Try.prog 3 #[.agg #[.int .i64 n, .int .i64 f, .int .i64 s, .int .i64 dl, .int .i64 ks, .int .i64 ee, .int .i64 wd, .int .i64 rh, .int .i64 sl, .int .i64 cp], .int .i64 i, .slice A2 l2.length c2] w fun en w' => en = .returned (.bool true) ∧ Below w.heap.size w w' := by
  have HN := Aside0.mk h
  clear h
  go_enter Try.func3, Try.ntmps3
  go_wp2_with (first | (go_at_call 11; go_loud (refine (new_not n f s dl ks ee wd rh sl cp i _ HN.out).mono ?_; rintro en w1 ⟨rfl, hb1⟩; have HB1 := Aside0.mk (below_step (below_alloc (Below.refl _ _) (.cells #[.int .i64 n, .int .i64 f, .int .i64 s, .int .i64 dl, .int .i64 ks, .int .i64 ee, .int .i64 wd, .int .i64 rh, .int .i64 sl, .int .i64 cp] 23 (0, 0))) hb1); clear hb1)) | (go_at_call 12; go_loud (refine (awake_ok _).mono ?_; rintro en w2 ⟨rfl, hb2⟩; have HB2 := Aside0.mk (below_step HB1.out hb2); clear hb2)))
  go_ret
  exact ⟨rfl, HB2.out⟩
set_option maxRecDepth 100000 in
set_option maxHeartbeats 16000000 in
theorem once_good (A2 : Option Addr) (c2 : Nat) (l2 : List Int) (n f s dl ks ee wd rh sl cp i : Int) (w : World) (hr2 : Kd.C (Kd.int .i64) w A2 l2.length l2) (hw2 : ∀ x ∈ l2, (Lit.int .i64 x).wf = true) (hl2 : l2.length ≤ maxLen)
    (hk : Ok n f s dl ks ee wd rh sl cp) (i0 : 0 ≤ i) (i1 : i < n) : Calls Try.prog 3 #[.agg #[.int .i64 n, .int .i64 f, .int .i64 s, .int .i64 dl, .int .i64 ks, .int .i64 ee, .int .i64 wd, .int .i64 rh, .int .i64 sl, .int .i64 cp], .int .i64 i, .slice A2 l2.length c2] w fun en w' => en = .returned (.bool true) ∧ Below w.heap.size w w' := by
  have hrr := ok_r hk
  obtain ⟨r0, r1, s0, s1⟩ := hrr
  have HRR := Aside0.mk (And.intro r0 (And.intro r1 (And.intro s0 s1)))
  clear r0 r1 s0 s1
  have HR2 := Aside0.mk hr2
  have HW2 := Aside0.mk hw2
  have HK := Aside0.mk hk
  unfold maxLen at hl2
  clear hr2 hw2 hk
  have HOLD : Aside0 (∀ W, Below (w.alloc (.cells #[.int .i64 n, .int .i64 f, .int .i64 s, .int .i64 dl, .int .i64 ks, .int .i64 ee, .int .i64 wd, .int .i64 rh, .int .i64 sl, .int .i64 cp] 23 (0, 0))).heap.size (w.alloc (.cells #[.int .i64 n, .int .i64 f, .int .i64 s, .int .i64 dl, .int .i64 ks, .int .i64 ee, .int .i64 wd, .int .i64 rh, .int .i64 sl, .int .i64 cp] 23 (0, 0))) W → ∀ (a : Addr) (v : Value), w.cell? a = some v → W.cell? a = some v) := ⟨fun W hB a v h => ((below_weaken (below_alloc (Below.refl w.heap.size w) (.cells #[.int .i64 n, .int .i64 f, .int .i64 s, .int .i64 dl, .int .i64 ks, .int .i64 ee, .int .i64 wd, .int .i64 rh, .int .i64 sl, .int .i64 cp] 23 (0, 0))) (by simp) hB).cell (World.block_lt_of_cell? w _ h)).trans h⟩
  go_enter Try.func3, Try.ntmps3
  go_wp2_with (first | (go_at_call 11; go_loud (refine (new_yes n f s dl ks ee wd rh sl cp i _ HK.out i0 i1).mono ?_; rintro en w1 ⟨g, bm, rfl, a1, a2, a3, a4⟩; have I1 := Aside0.mk a1; have M1 := Aside0.mk a2; have M2 := Aside0.mk a3; have B1 := Aside0.mk a4; clear a1 a2 a3 a4)))
  go_loopw [9, 10] (fun vl v wr => ∃ (k la : Int), vl = .int .i64 la ∧ v = .int .i64 k ∧ 0 ≤ k ∧ k ≤ 200 ∧ -1 ≤ la ∧ la ≤ 1048576 ∧ Aside0 (IsG (w.alloc (.cells #[.int .i64 n, .int .i64 f, .int .i64 s, .int .i64 dl, .int .i64 ks, .int .i64 ee, .int .i64 wd, .int .i64 rh, .int .i64 sl, .int .i64 cp] 23 (0, 0))) wr g bm n f s dl ks ee wd rh sl cp i la 0) ∧ Aside0 (Below (w.alloc (.cells #[.int .i64 n, .int .i64 f, .int .i64 s, .int .i64 dl, .int .i64 ks, .int .i64 ee, .int .i64 wd, .int .i64 rh, .int .i64 sl, .int .i64 cp] 23 (0, 0))).heap.size (w.alloc (.cells #[.int .i64 n, .int .i64 f, .int .i64 s, .int .i64 dl, .int .i64 ks, .int .i64 ee, .int .i64 wd, .int .i64 rh, .int .i64 sl, .int .i64 cp] 23 (0, 0))) wr)) (fun _ v _ => (200 - intOf v).toNat)
  case atStart => exact ⟨0, -1, rfl, rfl, by omega, by omega, by omega, by omega, ⟨I1.out.1, Nat.le_trans (by simp) I1.out.2⟩, B1⟩
  case round =>
    obtain ⟨k, la, rfl, rfl, k0, k1, u0, u1, I5, B5⟩ := hrel
    clear I1 B1 M1 M2
    by_cases c5 : k < (l2.length : Int)
    · have c5b : decide (k < (l2.length : Int)) = true := decide_eq_true c5
      by_cases c8 : k < 200
      · have c8b : decide (k < 200) = true := decide_eq_true c8
        obtain ⟨ad2, e2, hx2⟩ := Kd.at_int HR2.out k k0 c5
        cases e2
        have hy := rd_bd64 l2 k HW2.out k0 c5
        obtain ⟨t, hx⟩ : ∃ x, rd l2 k = x := ⟨_, rfl⟩
        rw [hx] at hx2 hy
        clear hx
        obtain ⟨y0, y1⟩ := hy
        have X2 := Aside0.mk hx2
        replace hx2 := HOLD.out _ B5.out _ _ hx2
        obtain ⟨r, p, o, e, hpl⟩ : ∃ r p o e, plc n s t = (r, p, o, e) := ⟨_, _, _, _, rfl⟩
        have hbd := plc_bd n s t r p o e hpl HRR.out.1 HRR.out.2.2.1 HRR.out.2.2.2 HRR.out.2.1
        have HP := Aside0.mk (show sched_Place.f 3 n f s dl ks ee wd rh sl cp t = some (r, p, o, e) by rw [place_in 0 n f s dl ks ee wd rh sl cp t HK.out, hpl])
        obtain ⟨x, y, z1, hd⟩ : ∃ x y z1, dataF i la 0 r p e = (x, y, z1) := ⟨_, _, _, rfl⟩
        have hcs := dataF_cases i la 0 r p e x y z1 hd
        have HD := Aside0.mk hd
        obtain ⟨b0, b1, b2, b3, b4, b5, b6⟩ := hbd
        clear hpl hd b6
        rcases hcs with ⟨hy, hz⟩ | ⟨he, hp, hla, hle, hx, hy, hz⟩
        · subst hz
          have hyb : (y != 0) = true := by simp [hy]
          clear hy
          go_wp2_with (first | (go_at_call 13; go_loud (refine (data_any g bm n f s dl ks ee wd rh sl cp i la 0 t r p o e _ _ I5.out B5.out HP.out x y la HD.out).mono ?_; rintro en w6 ⟨rfl, a1, a2, a3⟩; have cc := blk_below (blk_new w (.cells #[.int .i64 n, .int .i64 f, .int .i64 s, .int .i64 dl, .int .i64 ks, .int .i64 ee, .int .i64 wd, .int .i64 rh, .int .i64 sl, .int .i64 cp] 23 (0, 0))) a2; have c0 : w6.cell? ⟨w.heap.size, 0, none⟩ = some (.int .i64 n) := (blk_cell cc 0).trans rfl; have c1 : w6.cell? ⟨w.heap.size, 1, none⟩ = some (.int .i64 f) := (blk_cell cc 1).trans rfl; have c2 : w6.cell? ⟨w.heap.size, 2, none⟩ = some (.int .i64 s) := (blk_cell cc 2).trans rfl; have c3 : w6.cell? ⟨w.heap.size, 3, none⟩ = some (.int .i64 dl) := (blk_cell cc 3).trans rfl; have c4 : w6.cell? ⟨w.heap.size, 4, none⟩ = some (.int .i64 ks) := (blk_cell cc 4).trans rfl; have c5 : w6.cell? ⟨w.heap.size, 5, none⟩ = some (.int .i64 ee) := (blk_cell cc 5).trans rfl; have c6 : w6.cell? ⟨w.heap.size, 6, none⟩ = some (.int .i64 wd) := (blk_cell cc 6).trans rfl; have c7 : w6.cell? ⟨w.heap.size, 7, none⟩ = some (.int .i64 rh) := (blk_cell cc 7).trans rfl; have c8 : w6.cell? ⟨w.heap.size, 8, none⟩ = some (.int .i64 sl) := (blk_cell cc 8).trans rfl; have c9 : w6.cell? ⟨w.heap.size, 9, none⟩ = some (.int .i64 cp) := (blk_cell cc 9).trans rfl; clear cc; have x2_6 : w6.cell? (ad2.add k.toNat) = some (.int .i64 t) := HOLD.out _ a2 _ _ X2.out; have I6 := Aside0.mk a1; have B6 := Aside0.mk a2; clear a1 a2 a3)))
          go_roundw
          case rel => exact ⟨k + 1, la, rfl, by go_num, by omega, by omega, by omega, by omega, I6, B6⟩
          case measure => simp [intOf]; omega
        · subst he
          subst hp
          subst hx
          subst hy
          subst hz
          go_upto_region 10 with (first | (go_at_call 13; go_loud (refine (data_any g bm n f s dl ks ee wd rh sl cp i la 0 t r i o 0 _ _ I5.out B5.out HP.out r 0 r HD.out).mono ?_; rintro en w6 ⟨rfl, a1, a2, a3⟩; have cc := blk_below (blk_new w (.cells #[.int .i64 n, .int .i64 f, .int .i64 s, .int .i64 dl, .int .i64 ks, .int .i64 ee, .int .i64 wd, .int .i64 rh, .int .i64 sl, .int .i64 cp] 23 (0, 0))) a2; have c0 : w6.cell? ⟨w.heap.size, 0, none⟩ = some (.int .i64 n) := (blk_cell cc 0).trans rfl; have c1 : w6.cell? ⟨w.heap.size, 1, none⟩ = some (.int .i64 f) := (blk_cell cc 1).trans rfl; have c2 : w6.cell? ⟨w.heap.size, 2, none⟩ = some (.int .i64 s) := (blk_cell cc 2).trans rfl; have c3 : w6.cell? ⟨w.heap.size, 3, none⟩ = some (.int .i64 dl) := (blk_cell cc 3).trans rfl; have c4 : w6.cell? ⟨w.heap.size, 4, none⟩ = some (.int .i64 ks) := (blk_cell cc 4).trans rfl; have c5 : w6.cell? ⟨w.heap.size, 5, none⟩ = some (.int .i64 ee) := (blk_cell cc 5).trans rfl; have c6 : w6.cell? ⟨w.heap.size, 6, none⟩ = some (.int .i64 wd) := (blk_cell cc 6).trans rfl; have c7 : w6.cell? ⟨w.heap.size, 7, none⟩ = some (.int .i64 rh) := (blk_cell cc 7).trans rfl; have c8 : w6.cell? ⟨w.heap.size, 8, none⟩ = some (.int .i64 sl) := (blk_cell cc 8).trans rfl; have c9 : w6.cell? ⟨w.heap.size, 9, none⟩ = some (.int .i64 cp) := (blk_cell cc 9).trans rfl; clear cc; have x2_6 : w6.cell? (ad2.add k.toNat) = some (.int .i64 t) := HOLD.out _ a2 _ _ X2.out; have I6 := Aside0.mk a1; have B6 := Aside0.mk a2; clear a1 a2 a3)))
          have q1 := Aside0.mk (IsG.drew I6.out)
          have q2 := Aside0.mk (below_drew B6.out)
          have v1 : w6.heap.size ≠ w.heap.size := World.new_ne w6 _ c0
          have v2 := World.new_ne w6 _ x2_6
          go_region_held3 (fun W => W.cell? ⟨w.heap.size, 0, none⟩ = some (.int .i64 n) ∧ W.cell? ⟨w.heap.size, 1, none⟩ = some (.int .i64 f) ∧ W.cell? ⟨w.heap.size, 2, none⟩ = some (.int .i64 s) ∧ W.cell? ⟨w.heap.size, 3, none⟩ = some (.int .i64 dl) ∧ W.cell? ⟨w.heap.size, 4, none⟩ = some (.int .i64 ks) ∧ W.cell? ⟨w.heap.size, 5, none⟩ = some (.int .i64 ee) ∧ W.cell? ⟨w.heap.size, 6, none⟩ = some (.int .i64 wd) ∧ W.cell? ⟨w.heap.size, 7, none⟩ = some (.int .i64 rh) ∧ W.cell? ⟨w.heap.size, 8, none⟩ = some (.int .i64 sl) ∧ W.cell? ⟨w.heap.size, 9, none⟩ = some (.int .i64 cp) ∧ W.cell? (ad2.add k.toNat) = some (.int .i64 t)) (go_keep) (first | (go_at_call 14; go_loud (refine (sched_Place.calls 3 n f s dl ks ee wd rh sl cp t r i o 0 _ HP.out).mono ?_; rintro en w7 ⟨rfl, hb⟩; have I7 : Aside0 (IsG (w.alloc (.cells #[.int .i64 n, .int .i64 f, .int .i64 s, .int .i64 dl, .int .i64 ks, .int .i64 ee, .int .i64 wd, .int .i64 rh, .int .i64 sl, .int .i64 cp] 23 (0, 0))) w7 g bm n f s dl ks ee wd rh sl cp i r 0) := ⟨blk_below (by first | exact q1.out.1 | exact blk_alloc q1.out.1 _) hb, q1.out.2⟩; have B7 : Aside0 (Below (w.alloc (.cells #[.int .i64 n, .int .i64 f, .int .i64 s, .int .i64 dl, .int .i64 ks, .int .i64 ee, .int .i64 wd, .int .i64 rh, .int .i64 sl, .int .i64 cp] 23 (0, 0))).heap.size (w.alloc (.cells #[.int .i64 n, .int .i64 f, .int .i64 s, .int .i64 dl, .int .i64 ks, .int .i64 ee, .int .i64 wd, .int .i64 rh, .int .i64 sl, .int .i64 cp] 23 (0, 0))) w7) := ⟨below_step (by first | exact q2.out | exact below_alloc q2.out _) hb⟩; have cc := blk_below (blk_new w (.cells #[.int .i64 n, .int .i64 f, .int .i64 s, .int .i64 dl, .int .i64 ks, .int .i64 ee, .int .i64 wd, .int .i64 rh, .int .i64 sl, .int .i64 cp] 23 (0, 0))) B7.out; have d0 : w7.cell? ⟨w.heap.size, 0, none⟩ = some (.int .i64 n) := (blk_cell cc 0).trans rfl; have d1 : w7.cell? ⟨w.heap.size, 1, none⟩ = some (.int .i64 f) := (blk_cell cc 1).trans rfl; have d2 : w7.cell? ⟨w.heap.size, 2, none⟩ = some (.int .i64 s) := (blk_cell cc 2).trans rfl; have d3 : w7.cell? ⟨w.heap.size, 3, none⟩ = some (.int .i64 dl) := (blk_cell cc 3).trans rfl; have d4 : w7.cell? ⟨w.heap.size, 4, none⟩ = some (.int .i64 ks) := (blk_cell cc 4).trans rfl; have d5 : w7.cell? ⟨w.heap.size, 5, none⟩ = some (.int .i64 ee) := (blk_cell cc 5).trans rfl; have d6 : w7.cell? ⟨w.heap.size, 6, none⟩ = some (.int .i64 wd) := (blk_cell cc 6).trans rfl; have d7 : w7.cell? ⟨w.heap.size, 7, none⟩ = some (.int .i64 rh) := (blk_cell cc 7).trans rfl; have d8 : w7.cell? ⟨w.heap.size, 8, none⟩ = some (.int .i64 sl) := (blk_cell cc 8).trans rfl; have d9 : w7.cell? ⟨w.heap.size, 9, none⟩ = some (.int .i64 cp) := (blk_cell cc 9).trans rfl; clear cc; have x2_7 : w7.cell? (ad2.add k.toNat) = some (.int .i64 t) := HOLD.out _ B7.out _ _ X2.out; have v3 : w7.heap.size ≠ w.heap.size := World.new_ne w7 _ d0; have v4 := World.new_ne w7 _ x2_7; try (have nb := blk_below (blk_new w6.drew (.cells #[.int .i64 0, .int .i64 0, .int .i64 0] 33 (0, 0))) hb; have n0 : w7.cell? ⟨w6.heap.size, 0, none⟩ = some (.int .i64 0) := (blk_cell nb 0).trans rfl; have n1 : w7.cell? ⟨w6.heap.size, 1, none⟩ = some (.int .i64 0) := (blk_cell nb 1).trans rfl; have n2 : w7.cell? ⟨w6.heap.size, 2, none⟩ = some (.int .i64 0) := (blk_cell nb 2).trans rfl; have nf0 : w7.frozen? ⟨w6.heap.size, 0, none⟩ = false := blk_frozen nb 0; have nf1 : w7.frozen? ⟨w6.heap.size, 1, none⟩ = false := blk_frozen nb 1; have nf2 : w7.frozen? ⟨w6.heap.size, 2, none⟩ = false := blk_frozen nb 2; clear nb); clear hb)))
          all_goals
            have hgn : g ≠ w6.heap.size := Nat.ne_of_lt (blk_lt I6.out.1)
            have hsz := B6.out.size
            go_wp2
            go_roundw
            case rel => exact ⟨k + 1, r, rfl, by go_num, by omega, by omega, by omega, by omega, by first | exact I7 | exact ⟨IsG.alloc I7.out _⟩ | exact ⟨IsG.far (IsG.far (IsG.far I7.out hgn _) hgn _) hgn _⟩, by first | exact B7 | exact ⟨below_alloc B7.out _⟩ | exact ⟨below_set (below_set (below_set B7.out hsz) hsz) hsz⟩⟩
            case measure => simp [intOf]; omega
      · have c8b : decide (k < 200) = false := decide_eq_false c8
        go_wp2_with (first | (go_at_call 15; go_loud (refine (last_ok g bm n f s dl ks ee wd rh sl cp i la 0 _ _ I5.out).mono ?_; rintro en w7 ⟨rfl, e7⟩; rw [e7]; clear e7)) | (go_at_call 12; go_loud (refine (awake_ok _).mono ?_; rintro en w8 ⟨rfl, hb2⟩; have HB2 := Aside0.mk (below_step (below_weaken (below_alloc (Below.refl _ _) (.cells #[.int .i64 n, .int .i64 f, .int .i64 s, .int .i64 dl, .int .i64 ks, .int .i64 ee, .int .i64 wd, .int .i64 rh, .int .i64 sl, .int .i64 cp] 23 (0, 0))) (by simp) B5.out) hb2); clear hb2)))
        go_ret
        exact ⟨rfl, HB2.out⟩
    · have c5b : decide (k < (l2.length : Int)) = false := decide_eq_false c5
      go_wp2_with (first | (go_at_call 15; go_loud (refine (last_ok g bm n f s dl ks ee wd rh sl cp i la 0 _ _ I5.out).mono ?_; rintro en w7 ⟨rfl, e7⟩; rw [e7]; clear e7)) | (go_at_call 12; go_loud (refine (awake_ok _).mono ?_; rintro en w8 ⟨rfl, hb2⟩; have HB2 := Aside0.mk (below_step (below_weaken (below_alloc (Below.refl _ _) (.cells #[.int .i64 n, .int .i64 f, .int .i64 s, .int .i64 dl, .int .i64 ks, .int .i64 ee, .int .i64 wd, .int .i64 rh, .int .i64 sl, .int .i64 cp] 23 (0, 0))) (by simp) B5.out) hb2); clear hb2)))
      go_ret
      exact ⟨rfl, HB2.out⟩
theorem once_any (A2 : Option Addr) (c2 : Nat) (l2 : List Int) (n f s dl ks ee wd rh sl cp i : Int) (w : World) (hr2 : Kd.C (Kd.int .i64) w A2 l2.length l2) (hw2 : ∀ x ∈ l2, (Lit.int .i64 x).wf = true) (hl2 : l2.length ≤ maxLen) :
    Calls Try.prog 3 #[.agg #[.int .i64 n, .int .i64 f, .int .i64 s, .int .i64 dl, .int .i64 ks, .int .i64 ee, .int .i64 wd, .int .i64 rh, .int .i64 sl, .int .i64 cp], .int .i64 i, .slice A2 l2.length c2] w fun en w' => en = .returned (.bool true) ∧ Below w.heap.size w w' := by
  by_cases h : Ok n f s dl ks ee wd rh sl cp ∧ 0 ≤ i ∧ i < n
  · exact once_good A2 c2 l2 n f s dl ks ee wd rh sl cp i w hr2 hw2 hl2 h.1 h.2.1 h.2.2
  · exact once_bad n f s dl ks ee wd rh sl cp i A2 c2 l2 w h
end Go.Proofs.Ytfaikkhnlioajaa.Gd2
