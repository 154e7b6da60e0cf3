/- Any acts of a table. -/
import Derived.Test.YtfaikkhnlioajaaProg
import Derived.Below
import Derived.Deep.Draws
import Derived.Deep.AppendLies
import Derived.Maps.AppendAt
import Derived.OwnWalk
import Derived.Laws.BytesArg
import Derived.Laws.MakeOwn
import Derived.Laws.OwnMore
import Derived.Deep.OwnRows
import Derived.Tactics
import Derived.Lib.ConvBytes
import Derived.Laws.Slices
import Derived.WalkKit
import Derived.KernelRfl
import Derived.RowKit3
import Derived.Deep.LoopGhost
import Derived.Deep.QuietTactic
import Derived.BigQuiet
import Derived.WideLaws
import Derived.Deep.DeepCutAuto
import Derived.Deep.CutBlock
import Derived.Deep.RegionHeld3
import Derived.Laws.Rows
import Derived.Lib.AppendStr
import Derived.ArgAppend
import Derived.Laws.IdiomCopy
import Derived.OrdersHeld
import Derived.Laws.BitsLemmas
import Derived.RowKit
import Derived.RegionTactic
import Derived.ChangeAlike
import Derived.Outline
import Derived.LoopTactic
import Derived.WalkSpells
import Derived.WalkLawsBesides
import Derived.Lib.Hide
import Derived.StillTailTactics
import Derived.Deep.RegionWith
import Derived.Deep.RegionLaw
import Derived.Deep.DeepFit
import Derived.Deep.DeepMust
import Derived.Test.YtfaikkhnlioajaaWWords
import Derived.Test.YtfaikkhnlioajaaWLast
import Derived.Test.YtfaikkhnlioajaaWTab
import Derived.Test.YtfaikkhnlioajaaWFour
import Derived.Test.YtfaikkhnlioajaaWQPut
import Derived.Test.YtfaikkhnlioajaaWApart
import Derived.Test.YtfaikkhnlioajaaWArr
import Derived.Test.YtfaikkhnlioajaaWZeros
import Derived.Test.YtfaikkhnlioajaaWFoot
import Derived.Test.YtfaikkhnlioajaaWKept
import Derived.Test.YtfaikkhnlioajaaWShare
import Derived.Test.YtfaikkhnlioajaaWN
import Derived.Test.YtfaikkhnlioajaaWFootNe
import Derived.Test.YtfaikkhnlioajaaWAt
import Derived.Test.YtfaikkhnlioajaaWEqStruct
import Derived.Test.YtfaikkhnlioajaaWRepsOne
import Derived.Test.YtfaikkhnlioajaaWInv
import Derived.Test.YtfaikkhnlioajaaWInvWords
import Derived.Test.YtfaikkhnlioajaaWGuard
import Derived.Test.YtfaikkhnlioajaaWNEv
import Derived.Test.YtfaikkhnlioajaaWMore
import Derived.Test.YtfaikkhnlioajaaZF
namespace Go.Proofs.Ytfaikkhnlioajaa.Ru
open Go.RowKit Go.Proofs.YtfaikkhnlioajaaW.PrintWords Go.Proofs.YtfaikkhnlioajaaW.PrintLast Go.Proofs.YtfaikkhnlioajaaW.PrintMore 
attribute [local go_sem] max2_int min2_int max_two min_two max_three min_three max_four min_four
set_option linter.unusedVariables false
set_option linter.unusedSimpArgs false
open Go.Proofs.Ytfaikkhnlioajaa.QBase Go.Proofs.Ytfaikkhnlioajaa.Sch Go.Proofs.Ytfaikkhnlioajaa.Plc Go.Proofs.Ytfaikkhnlioajaa.Gd1 Go.Proofs.Ytfaikkhnlioajaa.Gd3 Go.Proofs.Ytfaikkhnlioajaa.Gd4 Go.Proofs.Ytfaikkhnlioajaa.BrP Go.Proofs.Ytfaikkhnlioajaa.Br1 Go.Proofs.Ytfaikkhnlioajaa.Br2 Go.Proofs.Ytfaikkhnlioajaa.Br4 Go.Proofs.Ytfaikkhnlioajaa.Ra Go.Proofs.Ytfaikkhnlioajaa.Rb Go.Proofs.Ytfaikkhnlioajaa.Rc Go.Proofs.Ytfaikkhnlioajaa.Re Go.Proofs.Ytfaikkhnlioajaa.Br5 Go.Proofs.Ytfaikkhnlioajaa.Br6 Go.Proofs.Ytfaikkhnlioajaa.Rp Go.Proofs.Ytfaikkhnlioajaa.Br7 Go.Proofs.Ytfaikkhnlioajaa.Br8 Go.Proofs.Ytfaikkhnlioajaa.Br9 Go.Proofs.Ytfaikkhnlioajaa.BrD Go.Proofs.Ytfaikkhnlioajaa.Rq Go.Proofs.Ytfaikkhnlioajaa.Rr Go.Proofs.Ytfaikkhnlioajaa.Rs Go.Proofs.Ytfaikkhnlioajaa.BrA Go.Proofs.Ytfaikkhnlioajaa.Rt Go.Maps
attribute [local go_sem] cellS1 frozenS1 cellS2 frozenS2 cellS3 frozenS3 cellS4 frozenS4 cellS5 frozenS5 cellS6 frozenS6

set_option maxRecDepth 100000 in
set_option maxHeartbeats 16000000 in
theorem plays_good (A2 A3 A4 A5 : Option Addr) (c2 c3 c4 c5 : Nat) (l2 l3 : List Int) (n4 n5 : Nat) (x4 x5 : Nat → Nat → Int) (n f s dl ks ee wd rh sl cp i : Int) (w : World) (hr2 : Kd.C (Kd.int .u8) w A2 l2.length l2) (hr3 : Kd.C (Kd.int .i64) w A3 l3.length l3) (hr4 : Rd.IntsAt w A4 .i64 2 n4 x4) (hr5 : Rd.IntsAt w A5 .i64 2 n5 x5)
    (hw2 : ∀ x ∈ l2, (Lit.int .u8 x).wf = true) (hw3 : ∀ x ∈ l3, (Lit.int .i64 x).wf = true) (hm2 : l2.length ≤ maxLen) (hm3 : l3.length ≤ maxLen) (hm4 : n4 ≤ maxLen) (hm5 : n5 ≤ maxLen) (hk : Ok n f s dl ks ee wd rh sl cp) (i0 : 0 ≤ i) (i1 : i < n) : Calls Try.prog 8 #[.agg #[.int .i64 n, .int .i64 f, .int .i64 s, .int .i64 dl, .int .i64 ks, .int .i64 ee, .int .i64 wd, .int .i64 rh, .int .i64 sl, .int .i64 cp], .int .i64 i, .slice A2 l2.length c2, .slice A3 l3.length c3, .slice A4 n4 c4, .slice A5 n5 c5] w fun en w' => en = .returned (.bool true) ∧ Below w.heap.size w w' := by
  have HR2 := Aside0.mk hr2
  have HR3 := Aside0.mk hr3
  have HR4 := Aside0.mk hr4
  have HR5 := Aside0.mk hr5
  have HW2 := Aside0.mk hw2
  have HW3 := Aside0.mk hw3
  have HK := Aside0.mk hk
  unfold maxLen at hm2 hm3 hm4 hm5
  clear hr2 hr3 hr4 hr5 hw2 hw3 hk
  go_enter Try.func8, Try.ntmps8
  go_upto_region 7 with (first | (go_at_call 22; go_loud (refine (tab_new n f s dl ks ee wd rh sl cp i _ HK.out i0 i1).mono ?_; rintro en w1 ⟨g, rfl, q1, q2⟩; have fb := blk_below (blk_new w (.cells #[.int .i64 n, .int .i64 f, .int .i64 s, .int .i64 dl, .int .i64 ks, .int .i64 ee, .int .i64 wd, .int .i64 rh, .int .i64 sl, .int .i64 cp] 23 (0, 0))) q2; have c0 : w1.cell? ⟨w.heap.size, 0, none⟩ = some (.int .i64 n) := (blk_cell fb 0).trans rfl; have c1 : w1.cell? ⟨w.heap.size, 1, none⟩ = some (.int .i64 f) := (blk_cell fb 1).trans rfl; have c2 : w1.cell? ⟨w.heap.size, 2, none⟩ = some (.int .i64 s) := (blk_cell fb 2).trans rfl; have c3 : w1.cell? ⟨w.heap.size, 3, none⟩ = some (.int .i64 dl) := (blk_cell fb 3).trans rfl; have c4 : w1.cell? ⟨w.heap.size, 4, none⟩ = some (.int .i64 ks) := (blk_cell fb 4).trans rfl; have c5 : w1.cell? ⟨w.heap.size, 5, none⟩ = some (.int .i64 ee) := (blk_cell fb 5).trans rfl; have c6 : w1.cell? ⟨w.heap.size, 6, none⟩ = some (.int .i64 wd) := (blk_cell fb 6).trans rfl; have c7 : w1.cell? ⟨w.heap.size, 7, none⟩ = some (.int .i64 rh) := (blk_cell fb 7).trans rfl; have c8 : w1.cell? ⟨w.heap.size, 8, none⟩ = some (.int .i64 sl) := (blk_cell fb 8).trans rfl; have c9 : w1.cell? ⟨w.heap.size, 9, none⟩ = some (.int .i64 cp) := (blk_cell fb 9).trans rfl; have T1 := Aside0.mk q1; have B1 := Aside0.mk q2; clear q1 q2 fb)) | (go_at_call 32; go_loud (refine (rnew_yes n f s dl ks ee wd rh sl cp i _ HK.out i0 i1).mono ?_; rintro en w2 ⟨h, lb, rfl, q1, q2⟩; have R2 : Aside0 (IsRf (w.alloc (.cells #[.int .i64 n, .int .i64 f, .int .i64 s, .int .i64 dl, .int .i64 ks, .int .i64 ee, .int .i64 wd, .int .i64 rh, .int .i64 sl, .int .i64 cp] 23 (0, 0))) w2 h lb n f s dl ks ee wd rh sl cp i (fun _ => none)) := ⟨q1.1, q1.2.1, Nat.le_trans B1.out.size q1.2.2.1, Nat.le_trans B1.out.size q1.2.2.2⟩; have T2 := Aside0.mk (T1.out.below q2); have B2 := Aside0.mk (below_step B1.out q2); clear q1 q2)))
  have HB0 : Aside0 (Below w.heap.size w (w.alloc (.cells #[.int .i64 n, .int .i64 f, .int .i64 s, .int .i64 dl, .int .i64 ks, .int .i64 ee, .int .i64 wd, .int .i64 rh, .int .i64 sl, .int .i64 cp] 23 (0, 0)))) := ⟨below_alloc (Below.refl _ _) _⟩
  obtain ⟨zz, hzz⟩ : ∃ zz, w.alloc (.cells #[.int .i64 n, .int .i64 f, .int .i64 s, .int .i64 dl, .int .i64 ks, .int .i64 ee, .int .i64 wd, .int .i64 rh, .int .i64 sl, .int .i64 cp] 23 (0, 0)) = zz := ⟨_, rfl⟩
  rw [hzz] at T2 R2 B2 HB0
  clear hzz c0 c1 c2 c3 c4 c5 c6 c7 c8 c9
  have HOLD : Aside0 (∀ W, Below zz.heap.size zz W → ∀ (a : Addr) (v : Value), w.cell? a = some v → W.cell? a = some v) := ⟨fun W hW a v ha => cell_bel hW (cell_bel HB0.out ha)⟩
  go_wp2
  go_loopw [17] (fun vi wr => ∃ (k : Nat) (M : KM) (K lb : Nat), vi = .int .i64 k ∧ k ≤ 60 ∧ K ≤ k ∧ Aside0 (KOk M) ∧ Aside0 (Tab zz wr g n f s dl ks ee wd rh sl cp i M K) ∧ Aside0 (IsRf zz wr h lb n f s dl ks ee wd rh sl cp i M) ∧ Aside0 (Below zz.heap.size zz wr)) (fun vi _ => 60 - (intOf vi).toNat)
  case atStart => exact ⟨0, fun _ => none, 0, lb, rfl, by omega, by omega, ⟨KOk.none⟩, T2, R2, B2⟩
  case round =>
    as_aux_lemma =>
      clear T1 B1 T2 R2 B2
      obtain ⟨k, M, K, lb, rfl, k60, hKk, HO, T5, R5, B5⟩ := hrel
      by_cases q2 : k < l2.length
      · have q2b : decide ((k : Int) < (l2.length : Int)) = true := decide_eq_true (by omega)
        by_cases q3 : k < l3.length
        · have q3b : decide ((k : Int) < (l3.length : Int)) = true := decide_eq_true (by omega)
          by_cases q4 : k < n4
          · have q4b : decide ((k : Int) < (n4 : Int)) = true := decide_eq_true (by omega)
            by_cases q5 : k < n5
            · have q5b : decide ((k : Int) < (n5 : Int)) = true := decide_eq_true (by omega)
              by_cases q6 : k < 60
              · as_aux_lemma =>
                  have q6b : decide ((k : Int) < 60) = true := decide_eq_true (by omega)
                  obtain ⟨ad2, e2, hx2⟩ := Kd.at_int HR2.out (k : Int) (by omega) (by omega)
                  cases e2
                  obtain ⟨ad3, e3, hx3⟩ := Kd.at_int HR3.out (k : Int) (by omega) (by omega)
                  cases e3
                  obtain ⟨ad4, e4, hx4⟩ := HR4.out k q4
                  subst e4
                  obtain ⟨ad5, e5, hx5⟩ := HR5.out k q5
                  subst e5
                  rw [Int.toNat_natCast] at hx2 hx3
                  have hq := rd_bdu8 l2 k HW2.out (by omega) (by omega)
                  obtain ⟨kd, hkd⟩ : ∃ x, rd l2 k = x := ⟨_, rfl⟩
                  obtain ⟨r, hr⟩ : ∃ x, rd l3 k = x := ⟨_, rfl⟩
                  rw [hkd] at hx2 hq
                  rw [hr] at hx3
                  have h40 := hx4 0 (by omega)
                  have h41 := hx4 1 (by omega)
                  have h50 := hx5 0 (by omega)
                  have h51 := hx5 1 (by omega)
                  rw [add_one] at h41 h51
                  obtain ⟨lo, hlo⟩ : ∃ x, x4 k 0 = x := ⟨_, rfl⟩
                  obtain ⟨hi, hhi⟩ : ∃ x, x4 k 1 = x := ⟨_, rfl⟩
                  obtain ⟨t0, ht0⟩ : ∃ x, x5 k 0 = x := ⟨_, rfl⟩
                  obtain ⟨t1, ht1⟩ : ∃ x, x5 k 1 = x := ⟨_, rfl⟩
                  rw [hlo] at h40
                  rw [hhi] at h41
                  rw [ht0] at h50
                  rw [ht1] at h51
                  have X2 := Aside0.mk hx2
                  have X3 := Aside0.mk hx3
                  have X4 : Aside0 (w.cell? (ad4.add (k * 2)) = some (.int .i64 lo)) := ⟨h40⟩
                  have X5 := Aside0.mk h41
                  have y2 : wr.cell? (ad2.add k) = some (.int .u8 kd) := HOLD.out _ B5.out _ _ hx2
                  have y5 : wr.cell? (ad5.add (k * 2)) = some (.int .i64 t0) := HOLD.out _ B5.out _ _ h50
                  have y6 := HOLD.out _ B5.out _ _ h51
                  clear hx2 hx3 hx4 hx5 hkd hr hlo hhi ht0 ht1 h40 h41 h50 h51
                  obtain ⟨hq0, hq1⟩ := hq
                  go_upto_if 95 with (fail)
                  obtain ⟨W1, hW1⟩ : ∃ W1, wr.alloc (.cells #[.int .i64 t0, .int .i64 t1] 77 (0, 0)) = W1 := ⟨_, rfl⟩
                  have T1 : Aside0 (Tab zz W1 g n f s dl ks ee wd rh sl cp i M K) := ⟨by rw [← hW1]; exact T5.out.alloc _⟩
                  have R1 : Aside0 (IsRf zz W1 h lb n f s dl ks ee wd rh sl cp i M) := ⟨by rw [← hW1]; exact R5.out.alloc _⟩
                  have B1 : Aside0 (Below zz.heap.size zz W1) := ⟨by rw [← hW1]; exact below_alloc B5.out _⟩
                  have XB : Aside0 (W1.heap[wr.heap.size]? = some (.cells #[.int .i64 t0, .int .i64 t1] 77 (0, 0))) := ⟨by rw [← hW1]; exact blk_new _ _⟩
                  rw [hW1]
                  obtain ⟨bx, hbx⟩ : ∃ bx, wr.heap.size = bx := ⟨_, rfl⟩
                  rw [hbx] at XB ⊢
                  clear hW1 hbx y2 y5 y6
                  go_cut [] from 58 to 255 (fun wx => ∃ (M2 : KM) (K2 lb : Nat), K2 ≤ k + 1 ∧ Aside0 (KOk M2) ∧ Aside0 (Tab zz wx g n f s dl ks ee wd rh sl cp i M2 K2) ∧ Aside0 (IsRf zz wx h lb n f s dl ks ee wd rh sl cp i M2) ∧ Aside0 (Below zz.heap.size zz wx) ∧ Aside0 (wx.heap[bx]? = some (.cells #[.int .i64 t0, .int .i64 t1] 77 (0, 0))))
                  case first =>
                    as_aux_lemma =>
                      by_cases c7 : kd % 8 = 7
                      · as_aux_lemma =>
                          have c7b : (kd % 8 == 7) = true := beq_iff_eq.2 c7
                          go_wp2_with (first | (go_at_call 33; go_loud (refine (tab_clear g n f s dl ks ee wd rh sl cp i zz _ M K T1.out B1.out).mono ?_; rintro en w3 ⟨rfl, a1, a2, a3⟩; have T3 := Aside0.mk a1; have B3 := Aside0.mk a2; have R3 : Aside0 (IsRf zz w3 h lb n f s dl ks ee wd rh sl cp i M) := ⟨IsRf.cells R1.out T1.out a3⟩; have XB3 : Aside0 (w3.heap[bx]? = some (.cells #[.int .i64 t0, .int .i64 t1] 77 (0, 0))) := ⟨a3 _ _ _ _ (Tab.ne T1.out XB.out (by decide)) XB.out⟩; clear a1 a2 a3)) | (go_at_call 34; go_loud (refine (rclear_ok h lb n f s dl ks ee wd rh sl cp i zz _ M R3.out HK.out B3.out).mono ?_; rintro en w4 ⟨lb', rfl, a1, a2, a3⟩; have R4 := Aside0.mk a1; have B4 := Aside0.mk a2; have G4 := Aside0.mk a3; clear a1 a2 a3)))
                          go_meet
                          exact ⟨fun _ => none, 0, lb', by omega, ⟨KOk.none⟩, ⟨Tab.grown T3.out G4.out R3.out.1 (by decide)⟩, R4, B4, ⟨(blk_grown XB3.out G4.out (fun e => blk_ne_f XB3.out R3.out.1 (by decide) (by cases e; rfl)))⟩⟩
                      · as_aux_lemma =>
                          have c7b : (kd % 8 == 7) = false := beq_eq_false_iff_ne.2 c7
                          have HTM := Aside0.mk (rfl : (Tab zz W1 g n f s dl ks ee wd rh sl cp i M K) = (Tab zz W1 g n f s dl ks ee wd rh sl cp i M K))
                          obtain ⟨a, M', hp⟩ : ∃ a M', putF n i (2 * (n * s)) (rh + sl) M r lo hi t0 = (a, M') := ⟨_, _, rfl⟩
                          have HP := Aside0.mk hp
                          have HO' : Aside0 (KOk M') := ⟨by have := putF_ok n i (2 * (n * s)) (rh + sl) M r lo hi t0 HO.out; rw [hp] at this; exact this⟩
                          have RPUT : Aside0 (∀ W, IsRf zz W h lb n f s dl ks ee wd rh sl cp i M → Below zz.heap.size zz W → Calls Try.prog 35 #[.pointer (some ⟨h, 0, none⟩), .int .i64 r, .agg #[.int .i64 lo, .int .i64 hi], .int .i64 t0] W fun en w' => en = .returned (.int .i64 a) ∧ IsRf zz w' h lb n f s dl ks ee wd rh sl cp i M' ∧ W.grownBy w' (some lb)) := ⟨fun W h1 h2 => by have := rput_any h lb n f s dl ks ee wd rh sl cp i r lo hi t0 zz W M h1 HO.out h2 HK.out; rw [hp] at this; exact this⟩
                          clear hp HTM
                          go_upto_region 14 with (fail)
                          have y3 : W1.cell? (ad3.add k) = some (.int .i64 r) := HOLD.out _ B1.out _ _ X3.out
                          have y4 : W1.cell? (ad4.add (k * 2)) = some (.int .i64 lo) := HOLD.out _ B1.out _ _ X4.out
                          have y5 : W1.cell? ⟨(ad4.add (k * 2)).block, (ad4.add (k * 2)).off + 1, none⟩ = some (.int .i64 hi) := HOLD.out _ B1.out _ _ X5.out
                          have y6 : W1.cell? ⟨bx, 0, none⟩ = some (.int .i64 t0) := (blk_cell XB.out 0).trans rfl
                          have y7 : W1.cell? ⟨bx, 1, none⟩ = some (.int .i64 t1) := (blk_cell XB.out 1).trans rfl
                          have qT : Aside0 (Tab zz W1.drew g n f s dl ks ee wd rh sl cp i M K) := ⟨T1.out.drewN 1⟩
                          have qR := Aside0.mk (IsRf.drew R1.out)
                          have qB := Aside0.mk (below_drew B1.out)
                          have qX := Aside0.mk (blk_drew XB.out)
                          go_region_held3 (fun W => W.cell? (ad3.add k) = some (.int .i64 r) ∧ W.cell? (ad4.add (k * 2)) = some (.int .i64 lo) ∧ W.cell? ⟨(ad4.add (k * 2)).block, (ad4.add (k * 2)).off + 1, none⟩ = some (.int .i64 hi) ∧ W.cell? ⟨bx, 0, none⟩ = some (.int .i64 t0)) (go_keep) (first | (go_at_call 25; go_loud (refine (tab_put g n f s dl ks ee wd rh sl cp i r lo hi t0 a M' zz _ M K qT.out qB.out HO.out (by omega) HK.out HP.out).mono ?_; rintro en w3 ⟨rfl, a1, a2, a3⟩; have T3 := Aside0.mk a1; have B3 := Aside0.mk a2; have R3 : Aside0 (IsRf zz w3 h lb n f s dl ks ee wd rh sl cp i M) := ⟨IsRf.cells qR.out qT.out a3⟩; have XB3 : Aside0 (w3.heap[bx]? = some (.cells #[.int .i64 t0, .int .i64 t1] 77 (0, 0))) := ⟨a3 _ _ _ _ (Tab.ne qT.out qX.out (by decide)) qX.out⟩; have u3 : w3.cell? (ad3.add k) = some (.int .i64 r) := HOLD.out _ B3.out _ _ X3.out; have u4 : w3.cell? (ad4.add (k * 2)) = some (.int .i64 lo) := HOLD.out _ B3.out _ _ X4.out; have u5 : w3.cell? ⟨(ad4.add (k * 2)).block, (ad4.add (k * 2)).off + 1, none⟩ = some (.int .i64 hi) := HOLD.out _ B3.out _ _ X5.out; have u6 : w3.cell? ⟨bx, 0, none⟩ = some (.int .i64 t0) := (blk_cell XB3.out 0).trans rfl; have u7 : w3.cell? ⟨bx, 1, none⟩ = some (.int .i64 t1) := (blk_cell XB3.out 1).trans rfl; clear a1 a2 a3)) | (go_at_call 35; go_loud (refine (RPUT.out _ R3.out B3.out).mono ?_; rintro en w4 ⟨rfl, a1, a2⟩; have R4 := Aside0.mk a1; have T4 : Aside0 (Tab zz w4 g n f s dl ks ee wd rh sl cp i M' (K + 1)) := ⟨Tab.grown T3.out a2 R3.out.2.1 (by decide)⟩; have B4 : Aside0 (Below zz.heap.size zz w4) := ⟨B3.out.grown a2 B3.out.size (fun j e => by cases e; exact R3.out.2.2.2)⟩; have XB4 : Aside0 (w4.heap[bx]? = some (.cells #[.int .i64 t0, .int .i64 t1] 77 (0, 0))) := ⟨blk_grown XB3.out a2 (fun e => blk_ne_f XB3.out R3.out.2.1 (by decide) (by cases e; rfl))⟩; have v3 : w4.cell? (ad3.add k) = some (.int .i64 r) := HOLD.out _ B4.out _ _ X3.out; have v4 : w4.cell? (ad4.add (k * 2)) = some (.int .i64 lo) := HOLD.out _ B4.out _ _ X4.out; have v5 : w4.cell? ⟨(ad4.add (k * 2)).block, (ad4.add (k * 2)).off + 1, none⟩ = some (.int .i64 hi) := HOLD.out _ B4.out _ _ X5.out; have v6 : w4.cell? ⟨bx, 0, none⟩ = some (.int .i64 t0) := (blk_cell XB4.out 0).trans rfl; have v7 : w4.cell? ⟨bx, 1, none⟩ = some (.int .i64 t1) := (blk_cell XB4.out 1).trans rfl; clear a1 a2)))
                          all_goals
                            go_wp2_with fail
                            go_meet
                            exact ⟨M', K + 1, lb, by omega, HO', T4, R4, B4, XB4⟩
                  case rest =>
                    as_aux_lemma =>
                      clear T1 R1 B1 XB T5 R5 B5 HO hKk
                      obtain ⟨M2, K2, lb, hK2, HO2, T2, R2, B2, XB2⟩ := hcut
                      obtain ⟨xa, ya, ea, hA⟩ : ∃ x y e, atF n i (2 * (n * s)) (rh + sl) M2 r t1 = (x, y, e) := ⟨_, _, _, rfl⟩
                      obtain ⟨pm, qm, hPQ⟩ : ∃ p q, mostF (xa, ya, ea) t1 = (p, q) := ⟨_, _, rfl⟩
                      obtain ⟨nn, hNN⟩ : ∃ a, nearL ee (upto n i (2 * (n * s)) (rh + sl) M2 t1 n.toNat) = a := ⟨_, rfl⟩
                      obtain ⟨fl, hFL⟩ : ∃ l, upto n i (2 * (n * s)) (rh + sl) M2 t1 n.toNat = l := ⟨_, rfl⟩
                      have HA := Aside0.mk hA
                      have HPQ := Aside0.mk hPQ
                      have HNN := Aside0.mk hNN
                      have HFL := Aside0.mk hFL
                      clear hA hPQ hNN hFL
                      go_upto_region 16 with (fail)
                      go_cut [19, 20] from 58 to 255 (fun s1 s2 wx => ∃ b19 : Nat, s1 = .pointer (some ⟨b19, 0, none⟩) ∧ s2 = .int .i64 ea ∧ Aside0 (wx.heap[b19]? = some (.cells #[.int .i64 xa, .int .i64 ya] 61 (0, 0))) ∧ Aside0 (Tab zz wx g n f s dl ks ee wd rh sl cp i M2 K2) ∧ Aside0 (IsRf zz wx h lb n f s dl ks ee wd rh sl cp i M2) ∧ Aside0 (Below zz.heap.size zz wx) ∧ Aside0 (wx.heap[bx]? = some (.cells #[.int .i64 t0, .int .i64 t1] 77 (0, 0))))
                      case first =>
                        as_aux_lemma =>
                          have y3 : wc.cell? (ad3.add k) = some (.int .i64 r) := HOLD.out _ B2.out _ _ X3.out
                          have y4 : wc.cell? (ad4.add (k * 2)) = some (.int .i64 lo) := HOLD.out _ B2.out _ _ X4.out
                          have y5 : wc.cell? ⟨(ad4.add (k * 2)).block, (ad4.add (k * 2)).off + 1, none⟩ = some (.int .i64 hi) := HOLD.out _ B2.out _ _ X5.out
                          have y6 : wc.cell? ⟨bx, 0, none⟩ = some (.int .i64 t0) := (blk_cell XB2.out 0).trans rfl
                          have y7 : wc.cell? ⟨bx, 1, none⟩ = some (.int .i64 t1) := (blk_cell XB2.out 1).trans rfl
                          have qT : Aside0 (Tab zz wc.drew g n f s dl ks ee wd rh sl cp i M2 K2) := ⟨T2.out.drewN 1⟩
                          have qR := Aside0.mk (IsRf.drew R2.out)
                          have qB := Aside0.mk (below_drew B2.out)
                          have qX := Aside0.mk (blk_drew XB2.out)
                          have qW : Aside0 (Below wc.heap.size wc wc.drew) := ⟨below_drew1 (Below.refl _ _)⟩
                          have ne1 := World.new_ne wc _ y3
                          have ne2 := World.new_ne wc _ y7
                          go_region_held3 (fun W => W.cell? (ad3.add k) = some (.int .i64 r) ∧ W.cell? ⟨bx, 1, none⟩ = some (.int .i64 t1)) (go_keep) (first | (go_at_call 26; go_loud (refine (tab_at g n f s dl ks ee wd rh sl cp i r t1 xa ya ea zz _ M2 K2 (by first | exact qT.out | exact Tab.alloc qT.out _) HO2.out HK.out HA.out).mono ?_; rintro en w7 ⟨rfl, hb⟩; have sT : Aside0 (Tab zz w7 g n f s dl ks ee wd rh sl cp i M2 K2) := ⟨Tab.below (by first | exact qT.out | exact Tab.alloc qT.out _) hb⟩; have sR : Aside0 (IsRf zz w7 h lb n f s dl ks ee wd rh sl cp i M2) := ⟨IsRf.below (by first | exact qR.out | exact IsRf.alloc qR.out _) hb⟩; have sB : Aside0 (Below zz.heap.size zz w7) := ⟨below_step (by first | exact qB.out | exact below_alloc qB.out _) hb⟩; have sX : Aside0 (w7.heap[bx]? = some (.cells #[.int .i64 t0, .int .i64 t1] 77 (0, 0))) := ⟨blk_below (by first | exact qX.out | exact blk_alloc qX.out _) hb⟩; have sW : Aside0 (Below wc.heap.size wc w7) := ⟨below_step (by first | exact qW.out | exact below_alloc qW.out _) hb⟩; have z3 : w7.cell? (ad3.add k) = some (.int .i64 r) := HOLD.out _ sB.out _ _ X3.out; have z4 : w7.cell? (ad4.add (k * 2)) = some (.int .i64 lo) := HOLD.out _ sB.out _ _ X4.out; have z5 : w7.cell? ⟨(ad4.add (k * 2)).block, (ad4.add (k * 2)).off + 1, none⟩ = some (.int .i64 hi) := HOLD.out _ sB.out _ _ X5.out; have z6 : w7.cell? ⟨bx, 0, none⟩ = some (.int .i64 t0) := (blk_cell sX.out 0).trans rfl; have z7 : w7.cell? ⟨bx, 1, none⟩ = some (.int .i64 t1) := (blk_cell sX.out 1).trans rfl; have hs7 : wc.heap.size ≤ w7.heap.size := sW.out.size; try (have nbx := blk_below (blk_new wc.drew (.cells #[.int .i64 0, .int .i64 0] 61 (0, 0))) hb; have nby : w7.heap[wc.heap.size]? = some (.cells #[.int .i64 0, .int .i64 0] 61 (0, 0)) := nbx; have nb0 : w7.cell? ⟨wc.heap.size, 0, none⟩ = some (.int .i64 0) := (blk_cell nby 0).trans rfl; have nbf0 : w7.frozen? ⟨wc.heap.size, 0, none⟩ = false := blk_frozen nby 0; have nb1 : w7.cell? ⟨wc.heap.size, 1, none⟩ = some (.int .i64 0) := (blk_cell nby 1).trans rfl; have nbf1 : w7.frozen? ⟨wc.heap.size, 1, none⟩ = false := blk_frozen nby 1; have NB := Aside0.mk nby; clear nbx nby); clear hb)))
                          all_goals
                            go_wp2_with fail
                            go_meet
                            exact ⟨_, rfl, rfl, ⟨by first | exact blk_new _ _ | exact blk_put (cs := #[.int .i64 xa, .int .i64 0]) (blk_put (cs := #[.int .i64 0, .int .i64 0]) NB.out 0 _ rfl) 1 _ rfl⟩, rel_mk (by (with_reducible repeat (first | exact sW.out | refine below_alloc ?_ _ | refine below_drew1 ?_ | refine below_set ?_ (by first | exact Nat.le_refl _ | exact hs7)))) T2 R2 B2 XB2⟩
                      case rest =>
                        as_aux_lemma =>
                          clear  T2 R2 B2 XB2
                          obtain ⟨b19, rfl, rfl, Kb19, T2, R2, B2, XB2⟩ := hcut
                          go_upto_region 17 with (fail)
                          go_cut [21, 22] from 58 to 255 (fun s1 s2 wx => ∃ b21 : Nat, s1 = .pointer (some ⟨b21, 0, none⟩) ∧ s2 = .int .i64 ea ∧ Aside0 (wx.heap[b21]? = some (.cells #[.int .i64 xa, .int .i64 ya] 61 (0, 0))) ∧ Aside0 (wx.heap[b19]? = some (.cells #[.int .i64 xa, .int .i64 ya] 61 (0, 0))) ∧ Aside0 (Tab zz wx g n f s dl ks ee wd rh sl cp i M2 K2) ∧ Aside0 (IsRf zz wx h lb n f s dl ks ee wd rh sl cp i M2) ∧ Aside0 (Below zz.heap.size zz wx) ∧ Aside0 (wx.heap[bx]? = some (.cells #[.int .i64 t0, .int .i64 t1] 77 (0, 0))))
                          case first =>
                            as_aux_lemma =>
                              have y3 : wc.cell? (ad3.add k) = some (.int .i64 r) := HOLD.out _ B2.out _ _ X3.out
                              have y4 : wc.cell? (ad4.add (k * 2)) = some (.int .i64 lo) := HOLD.out _ B2.out _ _ X4.out
                              have y5 : wc.cell? ⟨(ad4.add (k * 2)).block, (ad4.add (k * 2)).off + 1, none⟩ = some (.int .i64 hi) := HOLD.out _ B2.out _ _ X5.out
                              have y6 : wc.cell? ⟨bx, 0, none⟩ = some (.int .i64 t0) := (blk_cell XB2.out 0).trans rfl
                              have y7 : wc.cell? ⟨bx, 1, none⟩ = some (.int .i64 t1) := (blk_cell XB2.out 1).trans rfl
                              have qT : Aside0 (Tab zz wc.drew g n f s dl ks ee wd rh sl cp i M2 K2) := ⟨T2.out.drewN 1⟩
                              have qR := Aside0.mk (IsRf.drew R2.out)
                              have qB := Aside0.mk (below_drew B2.out)
                              have qX := Aside0.mk (blk_drew XB2.out)
                              have qW : Aside0 (Below wc.heap.size wc wc.drew) := ⟨below_drew1 (Below.refl _ _)⟩
                              have qb19 := Aside0.mk (blk_drew Kb19.out)
                              have ne1 := World.new_ne wc _ y3
                              have ne2 := World.new_ne wc _ y7
                              go_region_held3 (fun W => W.cell? (ad3.add k) = some (.int .i64 r) ∧ W.cell? ⟨bx, 1, none⟩ = some (.int .i64 t1)) (go_keep) (first | (go_at_call 36; go_loud (refine (rat_any h lb n f s dl ks ee wd rh sl cp i r t1 xa ya ea zz _ M2 (by first | exact qR.out | exact IsRf.alloc qR.out _) HO2.out HK.out HA.out).mono ?_; rintro en w7 ⟨rfl, hb⟩; have sT : Aside0 (Tab zz w7 g n f s dl ks ee wd rh sl cp i M2 K2) := ⟨Tab.below (by first | exact qT.out | exact Tab.alloc qT.out _) hb⟩; have sR : Aside0 (IsRf zz w7 h lb n f s dl ks ee wd rh sl cp i M2) := ⟨IsRf.below (by first | exact qR.out | exact IsRf.alloc qR.out _) hb⟩; have sB : Aside0 (Below zz.heap.size zz w7) := ⟨below_step (by first | exact qB.out | exact below_alloc qB.out _) hb⟩; have sX : Aside0 (w7.heap[bx]? = some (.cells #[.int .i64 t0, .int .i64 t1] 77 (0, 0))) := ⟨blk_below (by first | exact qX.out | exact blk_alloc qX.out _) hb⟩; have sW : Aside0 (Below wc.heap.size wc w7) := ⟨below_step (by first | exact qW.out | exact below_alloc qW.out _) hb⟩; have z3 : w7.cell? (ad3.add k) = some (.int .i64 r) := HOLD.out _ sB.out _ _ X3.out; have z4 : w7.cell? (ad4.add (k * 2)) = some (.int .i64 lo) := HOLD.out _ sB.out _ _ X4.out; have z5 : w7.cell? ⟨(ad4.add (k * 2)).block, (ad4.add (k * 2)).off + 1, none⟩ = some (.int .i64 hi) := HOLD.out _ sB.out _ _ X5.out; have z6 : w7.cell? ⟨bx, 0, none⟩ = some (.int .i64 t0) := (blk_cell sX.out 0).trans rfl; have z7 : w7.cell? ⟨bx, 1, none⟩ = some (.int .i64 t1) := (blk_cell sX.out 1).trans rfl; have hs7 : wc.heap.size ≤ w7.heap.size := sW.out.size; try (have nbx := blk_below (blk_new wc.drew (.cells #[.int .i64 0, .int .i64 0] 61 (0, 0))) hb; have nby : w7.heap[wc.heap.size]? = some (.cells #[.int .i64 0, .int .i64 0] 61 (0, 0)) := nbx; have nb0 : w7.cell? ⟨wc.heap.size, 0, none⟩ = some (.int .i64 0) := (blk_cell nby 0).trans rfl; have nbf0 : w7.frozen? ⟨wc.heap.size, 0, none⟩ = false := blk_frozen nby 0; have nb1 : w7.cell? ⟨wc.heap.size, 1, none⟩ = some (.int .i64 0) := (blk_cell nby 1).trans rfl; have nbf1 : w7.frozen? ⟨wc.heap.size, 1, none⟩ = false := blk_frozen nby 1; have NB := Aside0.mk nby; clear nbx nby); clear hb)))
                              all_goals
                                go_wp2_with fail
                                go_meet
                                exact ⟨_, rfl, rfl, ⟨by first | exact blk_new _ _ | exact blk_put (cs := #[.int .i64 xa, .int .i64 0]) (blk_put (cs := #[.int .i64 0, .int .i64 0]) NB.out 0 _ rfl) 1 _ rfl⟩, ⟨blk_below Kb19.out (by (with_reducible repeat (first | exact sW.out | refine below_alloc ?_ _ | refine below_drew1 ?_ | refine below_set ?_ (by first | exact Nat.le_refl _ | exact hs7))))⟩, rel_mk (by (with_reducible repeat (first | exact sW.out | refine below_alloc ?_ _ | refine below_drew1 ?_ | refine below_set ?_ (by first | exact Nat.le_refl _ | exact hs7)))) T2 R2 B2 XB2⟩
                          case rest =>
                            as_aux_lemma =>
                              clear Kb19 T2 R2 B2 XB2
                              obtain ⟨b21, rfl, rfl, Kb21, Kb19, T2, R2, B2, XB2⟩ := hcut
                              go_upto_region 18 with (fail)
                              go_cut [23, 24] from 58 to 255 (fun s1 s2 wx => s1 = .int .i64 pm ∧ s2 = .int .i64 qm ∧ Aside0 (wx.heap[b19]? = some (.cells #[.int .i64 xa, .int .i64 ya] 61 (0, 0))) ∧ Aside0 (wx.heap[b21]? = some (.cells #[.int .i64 xa, .int .i64 ya] 61 (0, 0))) ∧ Aside0 (Tab zz wx g n f s dl ks ee wd rh sl cp i M2 K2) ∧ Aside0 (IsRf zz wx h lb n f s dl ks ee wd rh sl cp i M2) ∧ Aside0 (Below zz.heap.size zz wx) ∧ Aside0 (wx.heap[bx]? = some (.cells #[.int .i64 t0, .int .i64 t1] 77 (0, 0))))
                              case first =>
                                as_aux_lemma =>
                                  have y3 : wc.cell? (ad3.add k) = some (.int .i64 r) := HOLD.out _ B2.out _ _ X3.out
                                  have y4 : wc.cell? (ad4.add (k * 2)) = some (.int .i64 lo) := HOLD.out _ B2.out _ _ X4.out
                                  have y5 : wc.cell? ⟨(ad4.add (k * 2)).block, (ad4.add (k * 2)).off + 1, none⟩ = some (.int .i64 hi) := HOLD.out _ B2.out _ _ X5.out
                                  have y6 : wc.cell? ⟨bx, 0, none⟩ = some (.int .i64 t0) := (blk_cell XB2.out 0).trans rfl
                                  have y7 : wc.cell? ⟨bx, 1, none⟩ = some (.int .i64 t1) := (blk_cell XB2.out 1).trans rfl
                                  have qT : Aside0 (Tab zz wc.drew g n f s dl ks ee wd rh sl cp i M2 K2) := ⟨T2.out.drewN 1⟩
                                  have qR := Aside0.mk (IsRf.drew R2.out)
                                  have qB := Aside0.mk (below_drew B2.out)
                                  have qX := Aside0.mk (blk_drew XB2.out)
                                  have qW : Aside0 (Below wc.heap.size wc wc.drew) := ⟨below_drew1 (Below.refl _ _)⟩
                                  have qb19 := Aside0.mk (blk_drew Kb19.out)
                                  have qb21 := Aside0.mk (blk_drew Kb21.out)
                                  go_region_held3 (fun W => W.cell? (ad3.add k) = some (.int .i64 r) ∧ W.cell? ⟨bx, 1, none⟩ = some (.int .i64 t1)) (go_keep) (first | (go_at_call 27; go_loud (refine (tab_most g n f s dl ks ee wd rh sl cp i r t1 xa ya ea pm qm zz _ M2 K2 qT.out HO2.out HK.out HA.out HPQ.out).mono ?_; rintro en w7 ⟨rfl, hb⟩; have sT : Aside0 (Tab zz w7 g n f s dl ks ee wd rh sl cp i M2 K2) := ⟨Tab.below qT.out hb⟩; have sR : Aside0 (IsRf zz w7 h lb n f s dl ks ee wd rh sl cp i M2) := ⟨IsRf.below qR.out hb⟩; have sB : Aside0 (Below zz.heap.size zz w7) := ⟨below_step qB.out hb⟩; have sX : Aside0 (w7.heap[bx]? = some (.cells #[.int .i64 t0, .int .i64 t1] 77 (0, 0))) := ⟨blk_below qX.out hb⟩; have sW : Aside0 (Below wc.heap.size wc w7) := ⟨below_step qW.out hb⟩; have z3 : w7.cell? (ad3.add k) = some (.int .i64 r) := HOLD.out _ sB.out _ _ X3.out; have z4 : w7.cell? (ad4.add (k * 2)) = some (.int .i64 lo) := HOLD.out _ sB.out _ _ X4.out; have z5 : w7.cell? ⟨(ad4.add (k * 2)).block, (ad4.add (k * 2)).off + 1, none⟩ = some (.int .i64 hi) := HOLD.out _ sB.out _ _ X5.out; have z6 : w7.cell? ⟨bx, 0, none⟩ = some (.int .i64 t0) := (blk_cell sX.out 0).trans rfl; have z7 : w7.cell? ⟨bx, 1, none⟩ = some (.int .i64 t1) := (blk_cell sX.out 1).trans rfl; clear hb)))
                                  all_goals
                                    go_wp2_with fail
                                    go_meet
                                    exact ⟨rfl, rfl, ⟨blk_below Kb19.out sW.out⟩, ⟨blk_below Kb21.out sW.out⟩, sT, sR, sB, sX⟩
                              case rest =>
                                as_aux_lemma =>
                                  clear Kb19 Kb21 T2 R2 B2 XB2
                                  obtain ⟨rfl, rfl, Kb19, Kb21, T2, R2, B2, XB2⟩ := hcut
                                  go_upto_region 19 with (fail)
                                  go_cut [25, 26] from 58 to 255 (fun s1 s2 wx => s1 = .int .i64 pm ∧ s2 = .int .i64 qm ∧ Aside0 (wx.heap[b19]? = some (.cells #[.int .i64 xa, .int .i64 ya] 61 (0, 0))) ∧ Aside0 (wx.heap[b21]? = some (.cells #[.int .i64 xa, .int .i64 ya] 61 (0, 0))) ∧ Aside0 (Tab zz wx g n f s dl ks ee wd rh sl cp i M2 K2) ∧ Aside0 (IsRf zz wx h lb n f s dl ks ee wd rh sl cp i M2) ∧ Aside0 (Below zz.heap.size zz wx) ∧ Aside0 (wx.heap[bx]? = some (.cells #[.int .i64 t0, .int .i64 t1] 77 (0, 0))))
                                  case first =>
                                    as_aux_lemma =>
                                      have y3 : wc.cell? (ad3.add k) = some (.int .i64 r) := HOLD.out _ B2.out _ _ X3.out
                                      have y4 : wc.cell? (ad4.add (k * 2)) = some (.int .i64 lo) := HOLD.out _ B2.out _ _ X4.out
                                      have y5 : wc.cell? ⟨(ad4.add (k * 2)).block, (ad4.add (k * 2)).off + 1, none⟩ = some (.int .i64 hi) := HOLD.out _ B2.out _ _ X5.out
                                      have y6 : wc.cell? ⟨bx, 0, none⟩ = some (.int .i64 t0) := (blk_cell XB2.out 0).trans rfl
                                      have y7 : wc.cell? ⟨bx, 1, none⟩ = some (.int .i64 t1) := (blk_cell XB2.out 1).trans rfl
                                      have qT : Aside0 (Tab zz wc.drew g n f s dl ks ee wd rh sl cp i M2 K2) := ⟨T2.out.drewN 1⟩
                                      have qR := Aside0.mk (IsRf.drew R2.out)
                                      have qB := Aside0.mk (below_drew B2.out)
                                      have qX := Aside0.mk (blk_drew XB2.out)
                                      have qW : Aside0 (Below wc.heap.size wc wc.drew) := ⟨below_drew1 (Below.refl _ _)⟩
                                      have qb19 := Aside0.mk (blk_drew Kb19.out)
                                      have qb21 := Aside0.mk (blk_drew Kb21.out)
                                      go_region_held3 (fun W => W.cell? (ad3.add k) = some (.int .i64 r) ∧ W.cell? ⟨bx, 1, none⟩ = some (.int .i64 t1)) (go_keep) (first | (go_at_call 37; go_loud (refine (rmost_any h lb n f s dl ks ee wd rh sl cp i r t1 xa ya ea pm qm zz _ M2 qR.out HO2.out HK.out HA.out HPQ.out).mono ?_; rintro en w7 ⟨rfl, hb⟩; have sT : Aside0 (Tab zz w7 g n f s dl ks ee wd rh sl cp i M2 K2) := ⟨Tab.below qT.out hb⟩; have sR : Aside0 (IsRf zz w7 h lb n f s dl ks ee wd rh sl cp i M2) := ⟨IsRf.below qR.out hb⟩; have sB : Aside0 (Below zz.heap.size zz w7) := ⟨below_step qB.out hb⟩; have sX : Aside0 (w7.heap[bx]? = some (.cells #[.int .i64 t0, .int .i64 t1] 77 (0, 0))) := ⟨blk_below qX.out hb⟩; have sW : Aside0 (Below wc.heap.size wc w7) := ⟨below_step qW.out hb⟩; have z3 : w7.cell? (ad3.add k) = some (.int .i64 r) := HOLD.out _ sB.out _ _ X3.out; have z4 : w7.cell? (ad4.add (k * 2)) = some (.int .i64 lo) := HOLD.out _ sB.out _ _ X4.out; have z5 : w7.cell? ⟨(ad4.add (k * 2)).block, (ad4.add (k * 2)).off + 1, none⟩ = some (.int .i64 hi) := HOLD.out _ sB.out _ _ X5.out; have z6 : w7.cell? ⟨bx, 0, none⟩ = some (.int .i64 t0) := (blk_cell sX.out 0).trans rfl; have z7 : w7.cell? ⟨bx, 1, none⟩ = some (.int .i64 t1) := (blk_cell sX.out 1).trans rfl; clear hb)))
                                      all_goals
                                        go_wp2_with fail
                                        go_meet
                                        exact ⟨rfl, rfl, ⟨blk_below Kb19.out sW.out⟩, ⟨blk_below Kb21.out sW.out⟩, sT, sR, sB, sX⟩
                                  case rest =>
                                    as_aux_lemma =>
                                      clear Kb19 Kb21 T2 R2 B2 XB2
                                      obtain ⟨rfl, rfl, Kb19, Kb21, T2, R2, B2, XB2⟩ := hcut
                                      go_upto_region 20 with (fail)
                                      go_cut [197] from 58 to 255 (fun s1 wx => s1 = .bool false ∧ Aside0 (Tab zz wx g n f s dl ks ee wd rh sl cp i M2 K2) ∧ Aside0 (IsRf zz wx h lb n f s dl ks ee wd rh sl cp i M2) ∧ Aside0 (Below zz.heap.size zz wx) ∧ Aside0 (wx.heap[bx]? = some (.cells #[.int .i64 t0, .int .i64 t1] 77 (0, 0))))
                                      case first =>
                                        as_aux_lemma =>
                                          have y3 : wc.cell? (ad3.add k) = some (.int .i64 r) := HOLD.out _ B2.out _ _ X3.out
                                          have y4 : wc.cell? (ad4.add (k * 2)) = some (.int .i64 lo) := HOLD.out _ B2.out _ _ X4.out
                                          have y5 : wc.cell? ⟨(ad4.add (k * 2)).block, (ad4.add (k * 2)).off + 1, none⟩ = some (.int .i64 hi) := HOLD.out _ B2.out _ _ X5.out
                                          have y6 : wc.cell? ⟨bx, 0, none⟩ = some (.int .i64 t0) := (blk_cell XB2.out 0).trans rfl
                                          have y7 : wc.cell? ⟨bx, 1, none⟩ = some (.int .i64 t1) := (blk_cell XB2.out 1).trans rfl
                                          have qT : Aside0 (Tab zz wc.drew g n f s dl ks ee wd rh sl cp i M2 K2) := ⟨T2.out.drewN 1⟩
                                          have qR := Aside0.mk (IsRf.drew R2.out)
                                          have qB := Aside0.mk (below_drew B2.out)
                                          have qX := Aside0.mk (blk_drew XB2.out)
                                          have qW : Aside0 (Below wc.heap.size wc wc.drew) := ⟨below_drew1 (Below.refl _ _)⟩
                                          have qb19 := Aside0.mk (blk_drew Kb19.out)
                                          have b190 : wc.cell? ⟨b19, 0, none⟩ = some (.int .i64 xa) := (blk_cell Kb19.out 0).trans rfl
                                          have b191 : wc.cell? ⟨b19, 1, none⟩ = some (.int .i64 ya) := (blk_cell Kb19.out 1).trans rfl
                                          have qb21 := Aside0.mk (blk_drew Kb21.out)
                                          have b210 : wc.cell? ⟨b21, 0, none⟩ = some (.int .i64 xa) := (blk_cell Kb21.out 0).trans rfl
                                          have b211 : wc.cell? ⟨b21, 1, none⟩ = some (.int .i64 ya) := (blk_cell Kb21.out 1).trans rfl
                                          go_region_held3 (fun W => W.cell? ⟨bx, 1, none⟩ = some (.int .i64 t1) ∧ W.cell? ⟨b19, 0, none⟩ = some (.int .i64 xa) ∧ W.cell? ⟨b19, 1, none⟩ = some (.int .i64 ya) ∧ W.cell? ⟨b21, 0, none⟩ = some (.int .i64 xa) ∧ W.cell? ⟨b21, 1, none⟩ = some (.int .i64 ya)) (go_keep) (first | (go_at_call 30; go_loud (refine (tab_near g n f s dl ks ee wd rh sl cp i t1 nn zz _ M2 K2 qT.out HO2.out HK.out HNN.out).mono ?_; rintro en w7 ⟨rfl, hb⟩; have sT : Aside0 (Tab zz w7 g n f s dl ks ee wd rh sl cp i M2 K2) := ⟨Tab.below qT.out hb⟩; have sR : Aside0 (IsRf zz w7 h lb n f s dl ks ee wd rh sl cp i M2) := ⟨IsRf.below qR.out hb⟩; have sB : Aside0 (Below zz.heap.size zz w7) := ⟨below_step qB.out hb⟩; have sX : Aside0 (w7.heap[bx]? = some (.cells #[.int .i64 t0, .int .i64 t1] 77 (0, 0))) := ⟨blk_below qX.out hb⟩; have sW : Aside0 (Below wc.heap.size wc w7) := ⟨below_step qW.out hb⟩; have sb19 := Aside0.mk (blk_below qb19.out hb); have tb190 : w7.cell? ⟨b19, 0, none⟩ = some (.int .i64 xa) := (blk_cell sb19.out 0).trans rfl; have tb191 : w7.cell? ⟨b19, 1, none⟩ = some (.int .i64 ya) := (blk_cell sb19.out 1).trans rfl; have sb21 := Aside0.mk (blk_below qb21.out hb); have tb210 : w7.cell? ⟨b21, 0, none⟩ = some (.int .i64 xa) := (blk_cell sb21.out 0).trans rfl; have tb211 : w7.cell? ⟨b21, 1, none⟩ = some (.int .i64 ya) := (blk_cell sb21.out 1).trans rfl; have z3 : w7.cell? (ad3.add k) = some (.int .i64 r) := HOLD.out _ sB.out _ _ X3.out; have z4 : w7.cell? (ad4.add (k * 2)) = some (.int .i64 lo) := HOLD.out _ sB.out _ _ X4.out; have z5 : w7.cell? ⟨(ad4.add (k * 2)).block, (ad4.add (k * 2)).off + 1, none⟩ = some (.int .i64 hi) := HOLD.out _ sB.out _ _ X5.out; have z6 : w7.cell? ⟨bx, 0, none⟩ = some (.int .i64 t0) := (blk_cell sX.out 0).trans rfl; have z7 : w7.cell? ⟨bx, 1, none⟩ = some (.int .i64 t1) := (blk_cell sX.out 1).trans rfl; clear hb)) | (go_at_call 38; go_loud (refine (rnear_ok h lb n f s dl ks ee wd rh sl cp i t1 nn zz _ M2 sR.out HO2.out HK.out HNN.out).mono ?_; rintro en w6 ⟨rfl, hb⟩; have sT : Aside0 (Tab zz w6 g n f s dl ks ee wd rh sl cp i M2 K2) := ⟨Tab.below sT.out hb⟩; have sR : Aside0 (IsRf zz w6 h lb n f s dl ks ee wd rh sl cp i M2) := ⟨IsRf.below sR.out hb⟩; have sB : Aside0 (Below zz.heap.size zz w6) := ⟨below_step sB.out hb⟩; have sX : Aside0 (w6.heap[bx]? = some (.cells #[.int .i64 t0, .int .i64 t1] 77 (0, 0))) := ⟨blk_below sX.out hb⟩; have sW : Aside0 (Below wc.heap.size wc w6) := ⟨below_step sW.out hb⟩; have sb19 := Aside0.mk (blk_below sb19.out hb); have tb190 : w6.cell? ⟨b19, 0, none⟩ = some (.int .i64 xa) := (blk_cell sb19.out 0).trans rfl; have tb191 : w6.cell? ⟨b19, 1, none⟩ = some (.int .i64 ya) := (blk_cell sb19.out 1).trans rfl; have sb21 := Aside0.mk (blk_below sb21.out hb); have tb210 : w6.cell? ⟨b21, 0, none⟩ = some (.int .i64 xa) := (blk_cell sb21.out 0).trans rfl; have tb211 : w6.cell? ⟨b21, 1, none⟩ = some (.int .i64 ya) := (blk_cell sb21.out 1).trans rfl; have z3 : w6.cell? (ad3.add k) = some (.int .i64 r) := HOLD.out _ sB.out _ _ X3.out; have z4 : w6.cell? (ad4.add (k * 2)) = some (.int .i64 lo) := HOLD.out _ sB.out _ _ X4.out; have z5 : w6.cell? ⟨(ad4.add (k * 2)).block, (ad4.add (k * 2)).off + 1, none⟩ = some (.int .i64 hi) := HOLD.out _ sB.out _ _ X5.out; have z6 : w6.cell? ⟨bx, 0, none⟩ = some (.int .i64 t0) := (blk_cell sX.out 0).trans rfl; have z7 : w6.cell? ⟨bx, 1, none⟩ = some (.int .i64 t1) := (blk_cell sX.out 1).trans rfl; clear hb)))
                                          all_goals
                                            go_wp2_with fail
                                            go_meet
                                            exact ⟨rfl, sT, sR, sB, sX⟩
                                      case rest =>
                                        as_aux_lemma =>
                                          clear Kb19 Kb21 T2 R2 B2 XB2
                                          obtain ⟨rfl, T2, R2, B2, XB2⟩ := hcut
                                          obtain ⟨ol, hOL⟩ : ∃ l, ro n i (2 * (n * s)) (rh + sl) M2 t1 n.toNat = l := ⟨_, rfl⟩
                                          have HOL := Aside0.mk hOL
                                          have HOF : Aside0 (offL i (upto n i (2 * (n * s)) (rh + sl) M2 t1 n.toNat) = ol) := ⟨(ro_eq n i (2 * (n * s)) (rh + sl) M2 t1 i0 i1).trans hOL⟩
                                          clear hOL
                                          have z7 : wc.cell? ⟨bx, 1, none⟩ = some (.int .i64 t1) := (blk_cell XB2.out 1).trans rfl
                                          go_upto_region 28 with (first | (go_at_call 31; go_loud (refine (tab_fresh g n f s dl ks ee wd rh sl cp i t1 fl zz _ M2 K2 T2.out HO2.out HK.out HFL.out).mono ?_; rintro en Wa ⟨v, rfl, a1, a2⟩; obtain ⟨Aa, ca, rfl⟩ := own_slice a1; have OA := Aside0.mk a1; have T3 := Aside0.mk (T2.out.below a2); have R3 := Aside0.mk (R2.out.below a2); have B3 := Aside0.mk (below_step B2.out a2); have X6 := Aside0.mk (blk_below XB2.out a2); have y7 : Wa.cell? ⟨bx, 1, none⟩ = some (.int .i64 t1) := (blk_cell X6.out 1).trans rfl; clear a1 a2)) | (go_at_call 39; go_loud (refine (rfresh_ok h lb n f s dl ks ee wd rh sl cp i t1 fl zz _ M2 R3.out HO2.out HK.out HFL.out).mono ?_; rintro en Wb ⟨v, rfl, a1, a2⟩; obtain ⟨Ab, cb, rfl⟩ := own_slice a1; have OB := Aside0.mk a1; have OA2 := Aside0.mk (own_below OA.out a2); have T4 := Aside0.mk (T3.out.below a2); have R4 := Aside0.mk (R3.out.below a2); have B4 := Aside0.mk (below_step B3.out a2); have X7 := Aside0.mk (blk_below X6.out a2); have x7 : Wb.cell? ⟨bx, 1, none⟩ = some (.int .i64 t1) := (blk_cell X7.out 1).trans rfl; clear a1 a2)) | (go_at_call 40; go_loud (refine (tab_offs g n f s dl ks ee wd rh sl cp i t1 ol zz _ M2 K2 T4.out HO2.out HK.out HOF.out).mono ?_; rintro en Wd ⟨v, rfl, a1, a2⟩; obtain ⟨Ad, cd, rfl⟩ := own_slice2 a1; have OD := Aside0.mk a1; have OA3 := Aside0.mk (own_below OA2.out a2); have OB3 := Aside0.mk (own_below OB.out a2); have T6 := Aside0.mk (T4.out.below a2); have R6 := Aside0.mk (R4.out.below a2); have B6 := Aside0.mk (below_step B4.out a2); have X8 := Aside0.mk (blk_below X7.out a2); have w7 : Wd.cell? ⟨bx, 1, none⟩ = some (.int .i64 t1) := (blk_cell X8.out 1).trans rfl; clear a1 a2)) | (go_at_call 41; go_loud (refine (roffs_ok h lb n f s dl ks ee wd rh sl cp i t1 ol zz _ M2 R6.out HO2.out HK.out HOL.out).mono ?_; rintro en We ⟨v, rfl, a1, a2⟩; obtain ⟨Ae, ce, rfl⟩ := own_slice2 a1; have OE := Aside0.mk a1; have OA4 := Aside0.mk (own_below OA3.out a2); have OB4 := Aside0.mk (own_below OB3.out a2); have OD4 := Aside0.mk (own_below OD.out a2); have T7 := Aside0.mk (T6.out.below a2); have R7 := Aside0.mk (R6.out.below a2); have B7 := Aside0.mk (below_step B6.out a2); clear a1 a2)))
                                          obtain ⟨wa0, hwa⟩ : ∃ x, wc.heap.size = x := ⟨_, rfl⟩
                                          obtain ⟨wb0, hwb⟩ : ∃ x, Wa.heap.size = x := ⟨_, rfl⟩
                                          obtain ⟨wd0, hwd⟩ : ∃ x, Wb.heap.size = x := ⟨_, rfl⟩
                                          obtain ⟨we0, hwe⟩ : ∃ x, Wd.heap.size = x := ⟨_, rfl⟩
                                          rw [hwa] at OA4
                                          rw [hwb] at OB4
                                          rw [hwd] at OD4
                                          rw [hwe] at OE
                                          clear hwa hwb hwd hwe T2 R2 B2 XB2 T3 R3 B3 X6 T4 R4 B4 X7 T6 R6 B6 X8 OA OA2 OA3 OB OB3 OD z7 y7 x7 w7
                                          go_wp2
                                          go_loopw [31] (fun vd wr => ∃ d : Nat, vd = .int .i64 d ∧ d ≤ fl.length ∧ Aside0 (wr.ownsRow wa0 3 1 (.slice Aa fl.length ca) fl.length (freshV fl)) ∧ Aside0 (wr.ownsRow wb0 3 1 (.slice Ab fl.length cb) fl.length (freshV fl)) ∧ Aside0 (wr.ownsRow wd0 61 2 (.slice Ad ol.length cd) ol.length (flat2 ol)) ∧ Aside0 (wr.ownsRow we0 61 2 (.slice Ae ol.length ce) ol.length (flat2 ol)) ∧ Aside0 (Tab zz wr g n f s dl ks ee wd rh sl cp i M2 K2) ∧ Aside0 (IsRf zz wr h lb n f s dl ks ee wd rh sl cp i M2) ∧ Aside0 (Below zz.heap.size zz wr)) (fun vd _ => fl.length - (intOf vd).toNat)
                                          case atStart => exact ⟨0, rfl, Nat.zero_le _, OA4, OB4, OD4, OE, T7, R7, B7⟩
                                          case round =>
                                            as_aux_lemma =>
                                              clear OA4 OB4 OD4 OE T7 R7 B7
                                              obtain ⟨d, rfl, hd, P1, P2, P3, P4, P5, P6, P7⟩ := hrel
                                              have hfl := P1.out.2
                                              have hml : fl.length ≤ maxLen := own_max P1.out
                                              unfold maxLen at hml
                                              clear hfl
                                              by_cases hdl : d < fl.length
                                              · as_aux_lemma =>
                                                  have hdb : decide ((d : Int) < (fl.length : Int)) = true := decide_eq_true (by omega)
                                                  obtain ⟨ax, ex, hx⟩ := row_int P1.out hdl
                                                  obtain ⟨ay, ey, hy⟩ := row_int P2.out hdl
                                                  subst ex
                                                  subst ey
                                                  obtain ⟨u, hu⟩ : ∃ u, (fl[d]).1 = u := ⟨_, rfl⟩
                                                  rw [hu] at hx hy
                                                  clear hu
                                                  have d0 : (0 : Int) ≤ (d : Int) := by omega
                                                  have d1 : (d : Int) < (fl.length : Int) := by omega
                                                  go_wp2
                                                  go_quiet (fail)
                                                  go_wp2
                                                  go_roundw
                                                  case rel => exact ⟨d + 1, by go_num, by omega, ⟨pw_own_drewN P1.out _⟩, ⟨pw_own_drewN P2.out _⟩, ⟨pw_own_drewN P3.out _⟩, ⟨pw_own_drewN P4.out _⟩, ⟨P5.out.drewN _⟩, ⟨P6.out.drewN _⟩, ⟨pw_below_drewN P7.out _⟩⟩
                                                  case measure => simp [intOf]; omega
                                              · as_aux_lemma =>
                                                  have hdb : decide ((d : Int) < (fl.length : Int)) = false := decide_eq_false (by omega)
                                                  go_wp2
                                                  go_loopw [32] (fun vd wr => ∃ d : Nat, vd = .int .i64 d ∧ d ≤ ol.length ∧ Aside0 (wr.ownsRow wa0 3 1 (.slice Aa fl.length ca) fl.length (freshV fl)) ∧ Aside0 (wr.ownsRow wb0 3 1 (.slice Ab fl.length cb) fl.length (freshV fl)) ∧ Aside0 (wr.ownsRow wd0 61 2 (.slice Ad ol.length cd) ol.length (flat2 ol)) ∧ Aside0 (wr.ownsRow we0 61 2 (.slice Ae ol.length ce) ol.length (flat2 ol)) ∧ Aside0 (Tab zz wr g n f s dl ks ee wd rh sl cp i M2 K2) ∧ Aside0 (IsRf zz wr h lb n f s dl ks ee wd rh sl cp i M2) ∧ Aside0 (Below zz.heap.size zz wr)) (fun vd _ => ol.length - (intOf vd).toNat)
                                                  case atStart => exact ⟨0, rfl, Nat.zero_le _, P1, P2, P3, P4, P5, P6, P7⟩
                                                  case round =>
                                                    as_aux_lemma =>
                                                      clear P1 P2 P3 P4 P5 P6 P7 hdb hdl hd
                                                      obtain ⟨d, rfl, hd, P1, P2, P3, P4, P5, P6, P7⟩ := hrel
                                                      have hol : ol.length ≤ maxLen := own_max P3.out
                                                      unfold maxLen at hol
                                                      by_cases hdl : d < ol.length
                                                      · as_aux_lemma =>
                                                          have hdb : decide ((d : Int) < (ol.length : Int)) = true := decide_eq_true (by omega)
                                                          obtain ⟨ax, ex, hx, hx'⟩ := row_two P3.out hdl
                                                          obtain ⟨ay, ey, hy, hy'⟩ := row_two P4.out hdl
                                                          subst ex
                                                          subst ey
                                                          obtain ⟨u, hu⟩ : ∃ u, (ol[d]).1 = u := ⟨_, rfl⟩
                                                          obtain ⟨u', hu'⟩ : ∃ u, (ol[d]).2 = u := ⟨_, rfl⟩
                                                          rw [hu] at hx hy
                                                          rw [hu'] at hx' hy'
                                                          clear hu hu'
                                                          have d0 : (0 : Int) ≤ (d : Int) := by omega
                                                          have d1 : (d : Int) < (ol.length : Int) := by omega
                                                          go_wp2
                                                          go_quiet (fail)
                                                          go_wp2
                                                          go_roundw
                                                          case rel => exact ⟨d + 1, by go_num, by omega, ⟨pw_own_drewN P1.out _⟩, ⟨pw_own_drewN P2.out _⟩, ⟨pw_own_drewN P3.out _⟩, ⟨pw_own_drewN P4.out _⟩, ⟨P5.out.drewN _⟩, ⟨P6.out.drewN _⟩, ⟨pw_below_drewN P7.out _⟩⟩
                                                          case measure => simp [intOf]; omega
                                                      · as_aux_lemma =>
                                                          have hdb : decide ((d : Int) < (ol.length : Int)) = false := decide_eq_false (by omega)
                                                          go_wp2
                                                          go_roundw
                                                          case rel => exact ⟨k + 1, M2, K2, lb, by go_num, by omega, by omega, HO2, P5, P6, P7⟩
                                                          case measure => simp [intOf]; omega
              · as_aux_lemma =>
                  have q6b : decide ((k : Int) < 60) = false := decide_eq_false (by omega)
                  go_wp2_with (first | (go_at_call 24; go_loud (refine (BrA.awake_ok _).mono ?_; rintro en w8 ⟨rfl, hb8⟩; have B8 := Aside0.mk (below_step B5.out hb8); clear hb8)))
                  go_ret
                  exact ⟨rfl, HB0.out.trans (B8.out.mono HB0.out.size)⟩
            · have q5b : decide ((k : Int) < (n5 : Int)) = false := decide_eq_false (by omega)
              go_wp2_with (first | (go_at_call 24; go_loud (refine (BrA.awake_ok _).mono ?_; rintro en w8 ⟨rfl, hb8⟩; have B8 := Aside0.mk (below_step B5.out hb8); clear hb8)))
              go_ret
              exact ⟨rfl, HB0.out.trans (B8.out.mono HB0.out.size)⟩
          · have q4b : decide ((k : Int) < (n4 : Int)) = false := decide_eq_false (by omega)
            go_wp2_with (first | (go_at_call 24; go_loud (refine (BrA.awake_ok _).mono ?_; rintro en w8 ⟨rfl, hb8⟩; have B8 := Aside0.mk (below_step B5.out hb8); clear hb8)))
            go_ret
            exact ⟨rfl, HB0.out.trans (B8.out.mono HB0.out.size)⟩
        · have q3b : decide ((k : Int) < (l3.length : Int)) = false := decide_eq_false (by omega)
          go_wp2_with (first | (go_at_call 24; go_loud (refine (BrA.awake_ok _).mono ?_; rintro en w8 ⟨rfl, hb8⟩; have B8 := Aside0.mk (below_step B5.out hb8); clear hb8)))
          go_ret
          exact ⟨rfl, HB0.out.trans (B8.out.mono HB0.out.size)⟩
      · have q2b : decide ((k : Int) < (l2.length : Int)) = false := decide_eq_false (by omega)
        go_wp2_with (first | (go_at_call 24; go_loud (refine (BrA.awake_ok _).mono ?_; rintro en w8 ⟨rfl, hb8⟩; have B8 := Aside0.mk (below_step B5.out hb8); clear hb8)))
        go_ret
        exact ⟨rfl, HB0.out.trans (B8.out.mono HB0.out.size)⟩
theorem plays_any (A2 A3 A4 A5 : Option Addr) (c2 c3 c4 c5 : Nat) (l2 l3 : List Int) (n4 n5 : Nat) (x4 x5 : Nat → Nat → Int) (n f s dl ks ee wd rh sl cp i : Int) (w : World) (hr2 : Kd.C (Kd.int .u8) w A2 l2.length l2) (hr3 : Kd.C (Kd.int .i64) w A3 l3.length l3) (hr4 : Rd.IntsAt w A4 .i64 2 n4 x4) (hr5 : Rd.IntsAt w A5 .i64 2 n5 x5)
    (hw2 : ∀ x ∈ l2, (Lit.int .u8 x).wf = true) (hw3 : ∀ x ∈ l3, (Lit.int .i64 x).wf = true) (hm2 : l2.length ≤ maxLen) (hm3 : l3.length ≤ maxLen) (hm4 : n4 ≤ maxLen) (hm5 : n5 ≤ maxLen) : Calls Try.prog 8 #[.agg #[.int .i64 n, .int .i64 f, .int .i64 s, .int .i64 dl, .int .i64 ks, .int .i64 ee, .int .i64 wd, .int .i64 rh, .int .i64 sl, .int .i64 cp], .int .i64 i, .slice A2 l2.length c2, .slice A3 l3.length c3, .slice A4 n4 c4, .slice A5 n5 c5] w fun en w' => en = .returned (.bool true) ∧ Below w.heap.size w w' := by
  by_cases h : Ok n f s dl ks ee wd rh sl cp ∧ 0 ≤ i ∧ i < n
  · exact plays_good A2 A3 A4 A5 c2 c3 c4 c5 l2 l3 n4 n5 x4 x5 n f s dl ks ee wd rh sl cp i w hr2 hr3 hr4 hr5 hw2 hw3 hm2 hm3 hm4 hm5 h.1 h.2.1 h.2.2
  · exact plays_bad A2 A3 A4 A5 c2 c3 c4 c5 l2 l3 n4 n5 x4 x5 n f s dl ks ee wd rh sl cp i w h
end Go.Proofs.Ytfaikkhnlioajaa.Ru
