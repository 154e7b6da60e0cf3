/- Near is near. -/
import Derived.Test.YtfaikkhnlioajaaProg
import Derived.Below
import Derived.Deep.Draws
import Derived.Deep.AppendLies
import Derived.Maps.AppendAt
import Derived.OwnWalk
import Derived.Laws.BytesArg
import Derived.Laws.MakeOwn
import Derived.Laws.OwnMore
import Derived.Deep.OwnRows
import Derived.Tactics
import Derived.Lib.ConvBytes
import Derived.Laws.Slices
import Derived.WalkKit
import Derived.KernelRfl
import Derived.RowKit3
import Derived.Deep.LoopGhost
import Derived.Deep.QuietTactic
import Derived.BigQuiet
import Derived.WideLaws
import Derived.Deep.DeepCutAuto
import Derived.Deep.CutBlock
import Derived.Deep.RegionHeld3
import Derived.Laws.Rows
import Derived.Lib.AppendStr
import Derived.ArgAppend
import Derived.Laws.IdiomCopy
import Derived.OrdersHeld
import Derived.Laws.BitsLemmas
import Derived.RowKit
import Derived.RegionTactic
import Derived.ChangeAlike
import Derived.Outline
import Derived.LoopTactic
import Derived.WalkSpells
import Derived.WalkLawsBesides
import Derived.Lib.Hide
import Derived.StillTailTactics
import Derived.Deep.RegionWith
import Derived.Deep.RegionLaw
import Derived.Deep.DeepFit
import Derived.Deep.DeepMust
import Derived.Test.YtfaikkhnlioajaaWWords
import Derived.Test.YtfaikkhnlioajaaWLast
import Derived.Test.YtfaikkhnlioajaaWTab
import Derived.Test.YtfaikkhnlioajaaWFour
import Derived.Test.YtfaikkhnlioajaaWQPut
import Derived.Test.YtfaikkhnlioajaaWApart
import Derived.Test.YtfaikkhnlioajaaWArr
import Derived.Test.YtfaikkhnlioajaaWZeros
import Derived.Test.YtfaikkhnlioajaaWFoot
import Derived.Test.YtfaikkhnlioajaaWKept
import Derived.Test.YtfaikkhnlioajaaWShare
import Derived.Test.YtfaikkhnlioajaaWN
import Derived.Test.YtfaikkhnlioajaaWFootNe
import Derived.Test.YtfaikkhnlioajaaWAt
import Derived.Test.YtfaikkhnlioajaaWEqStruct
import Derived.Test.YtfaikkhnlioajaaWRepsOne
import Derived.Test.YtfaikkhnlioajaaWInv
import Derived.Test.YtfaikkhnlioajaaWInvWords
import Derived.Test.YtfaikkhnlioajaaWGuard
import Derived.Test.YtfaikkhnlioajaaWNEv
import Derived.Test.YtfaikkhnlioajaaWMore
import Derived.Test.YtfaikkhnlioajaaBrB
import Derived.Test.YtfaikkhnlioajaaRd
namespace Go.Proofs.Ytfaikkhnlioajaa.BrC
open Go.RowKit Go.Proofs.YtfaikkhnlioajaaW.PrintWords Go.Proofs.YtfaikkhnlioajaaW.PrintLast Go.Proofs.YtfaikkhnlioajaaW.PrintMore 
attribute [local go_sem] max2_int min2_int max_two min_two max_three min_three max_four min_four
set_option linter.unusedVariables false
set_option linter.unusedSimpArgs false
open Go.Proofs.Ytfaikkhnlioajaa.QBase Go.Proofs.Ytfaikkhnlioajaa.Sch Go.Proofs.Ytfaikkhnlioajaa.Plc Go.Proofs.Ytfaikkhnlioajaa.Gd1 Go.Proofs.Ytfaikkhnlioajaa.Gd3 Go.Proofs.Ytfaikkhnlioajaa.Gd4 Go.Proofs.Ytfaikkhnlioajaa.BrP Go.Proofs.Ytfaikkhnlioajaa.Br1 Go.Proofs.Ytfaikkhnlioajaa.Br2 Go.Proofs.Ytfaikkhnlioajaa.Br3 Go.Proofs.Ytfaikkhnlioajaa.Br4 Go.Proofs.Ytfaikkhnlioajaa.Br5 Go.Proofs.Ytfaikkhnlioajaa.Br6 Go.Proofs.Ytfaikkhnlioajaa.Br7 Go.Proofs.Ytfaikkhnlioajaa.Br8 Go.Proofs.Ytfaikkhnlioajaa.Br9 Go.Proofs.Ytfaikkhnlioajaa.BrA Go.Proofs.Ytfaikkhnlioajaa.BrB Go.Maps
attribute [local go_sem] cellS1 frozenS1 cellS2 frozenS2 cellS3 frozenS3 cellS4 frozenS4 cellS5 frozenS5 cellS6 frozenS6
open Go.Shelf


theorem add_one (ad : Addr) (m : Nat) : ad.add (m + 1) = ⟨(ad.add m).block, (ad.add m).off + 1, none⟩ := by
  unfold Addr.add
  by_cases h : m = 0
  · subst h; simp
  · rw [if_neg (by omega), if_neg h]; simp only [Nat.add_assoc]
theorem add_zero' (ad : Addr) (m : Nat) : ad.add (m + 0) = ad.add m := rfl
theorem cell_bel {w w' : World} (hb : Below w.heap.size w w') {a : Addr} {v : Value} (h : w.cell? a = some v) : w'.cell? a = some v := (hb.cell (World.block_lt_of_cell? w _ h)).trans h
theorem own_nil {w : World} {b : Nat} {e : TypeId} {v : Value} (h : w.ownsRow b e 1 v 0 []) : ∃ A c, v = .slice A 0 c := by
  rcases h.2 with ⟨rfl, _⟩ | ⟨g, cap, cur, rfl, _⟩
  · exact ⟨_, _, rfl⟩
  · exact ⟨_, _, rfl⟩
set_option maxRecDepth 100000 in
set_option maxHeartbeats 16000000 in
theorem near_law (A0 : Option Addr) (c0 n0 : Nat) (xf : Nat → Nat → Int) (u : Int) (w : World) (hr0 : Rd.IntsAt w A0 .i64 2 n0 xf) (hm0 : n0 ≤ maxLen) (u0 : 0 ≤ u) (u1 : u ≤ 65535) :
    Calls Try.prog 7 #[.slice A0 n0 c0, .int .u16 u] w fun en w' => en = .returned (.bool true) ∧ Below w.heap.size w w' := by
  have HR0 := Aside0.mk hr0
  have HK := Aside0.mk usual_ok
  unfold maxLen at hm0
  clear hr0
  go_enter Try.func7, Try.ntmps7
  go_upto_region 5 with (first | (go_at_call 23; go_loud (refine (carillonlaw24_usual.calls 3 0 400 1 16 400 400 1 2 8 _ rfl).mono ?_; rintro en w1 ⟨rfl, hb1⟩; have HB1 := Aside0.mk hb1; clear hb1)) | (go_at_call 22; go_loud (refine (tab_new 3 0 400 1 16 400 400 1 2 8 1 _ HK.out (by omega) (by omega)).mono ?_; rintro en w2 ⟨g, rfl, a1, a2⟩; have T2 := Aside0.mk a1; have B2 := Aside0.mk a2; clear a1 a2)))
  obtain ⟨zz, hzz⟩ : ∃ zz, (w1.alloc (.cells #[.int .i64 3, .int .i64 0, .int .i64 400, .int .i64 1, .int .i64 16, .int .i64 400, .int .i64 400, .int .i64 1, .int .i64 2, .int .i64 8] 23)) = zz := ⟨_, rfl⟩
  have HZ : Aside0 (zz.heap[w1.heap.size]? = some (.cells #[.int .i64 3, .int .i64 0, .int .i64 400, .int .i64 1, .int .i64 16, .int .i64 400, .int .i64 400, .int .i64 1, .int .i64 2, .int .i64 8] 23 (0, 0))) := ⟨by rw [← hzz]; exact blk_new _ _⟩
  have HB0 : Aside0 (Below w.heap.size w zz) := ⟨by rw [← hzz]; exact below_alloc HB1.out _⟩
  rw [hzz] at T2 B2
  obtain ⟨cb, hcb⟩ : ∃ cb, w1.heap.size = cb := ⟨_, rfl⟩
  rw [hcb] at HZ ⊢
  clear hcb hzz
  go_wp2
  go_loopw [8, 9] (fun vn vi wr => ∃ (k : Nat) (M : KM) (nn : Int), vn = .int .i64 nn ∧ vi = .int .i64 k ∧ k ≤ 3 ∧ 1 ≤ nn ∧ nn ≤ 1 + k ∧ Aside0 (nearL 400 (upto 3 1 (2 * (3 * 400)) (1 + 2) M (100 + u) k) = nn) ∧ Aside0 (NInv M k) ∧ Aside0 (Tab zz wr g 3 0 400 1 16 400 400 1 2 8 1 M k) ∧ Aside0 (Below zz.heap.size zz wr)) (fun _ vi _ => 3 - (intOf vi).toNat)
  case atStart => exact ⟨0, fun _ => none, 1, rfl, rfl, by omega, by omega, by omega, ⟨rfl⟩, ⟨NInv.zero⟩, T2, B2⟩
  case round =>
    obtain ⟨k, M, nn, rfl, rfl, hk3, n1, n2, HE, HN, T5, B5⟩ := hrel
    clear T2 B2
    by_cases h1 : k < n0
    · have h1b : decide ((k : Int) < (n0 : Int)) = true := decide_eq_true (by omega)
      by_cases h2 : k < 3
      · have h2b : decide ((k : Int) < 3) = true := decide_eq_true (by omega)
        by_cases h3 : k = 1
        · have h3b : ((k : Int) != 1) = false := by simp [h3]
          have HS := Aside0.mk (near_skip HN.out (100 + u))
          clear h3
          go_wp2
          go_roundw
          case rel => exact ⟨k + 1, M, nn, rfl, by go_num, by omega, by omega, by omega, ⟨HS.out.trans HE.out⟩, ⟨HN.out.skip⟩, ⟨T5.out.mono (Nat.le_succ k)⟩, B5⟩
          case measure => simp [intOf]; omega
        · have h3b : ((k : Int) != 1) = true := by simp; omega
          obtain ⟨ad0, e0, hx⟩ := HR0.out k h1
          subst e0
          have hx0 := hx 0 (by omega)
          have hx1 := hx 1 (by omega)
          rw [add_one] at hx1
          have x0 : wr.cell? (ad0.add (k * 2)) = some (.int .i64 (xf k 0)) := (cell_bel B5.out ((cell_bel HB0.out hx0)))
          have x1 := cell_bel B5.out (cell_bel HB0.out hx1)
          clear hx0 hx1
          obtain ⟨lo, hlo⟩ : ∃ lo, xf k 0 = lo := ⟨_, rfl⟩
          obtain ⟨hi, hhi⟩ : ∃ hi, xf k 1 = hi := ⟨_, rfl⟩
          rw [hlo] at x0
          rw [hhi] at x1
          clear hx hlo hhi
          have HQ := put_new_eq HN.out h2 h3 lo hi
          clear h3
          by_cases hR : R lo hi
          · rw [if_pos hR] at HQ
            obtain ⟨M', hM'⟩ : ∃ M', (fun v => if v = (k : Int) then some (lo, hi, 100) else M v) = M' := ⟨_, rfl⟩
            have HN2 : Aside0 (NInv M' (k + 1)) := ⟨by rw [← hM']; exact HN.out.put hR⟩
            obtain ⟨x, y, ee, hA⟩ : ∃ x y ee, atF 3 1 (2 * (3 * 400)) (1 + 2) M' (k : Int) (100 + u) = (x, y, ee) := ⟨_, _, _, rfl⟩
            obtain ⟨bb, hI, _⟩ := inside_same x y 400 (by omega) (by omega)
            have HS := near_step HN.out lo hi (100 + u) x y ee (by rw [hM']; exact hA) bb hI
            rw [hM'] at HQ HS
            have HP := Aside0.mk HQ
            have HS := Aside0.mk HS
            have HA := Aside0.mk hA
            have HI := Aside0.mk hI
            have HO := Aside0.mk HN2.out.1
            clear hM' hA hI HQ hR
            by_cases he : ee = 0
            · subst he
              cases bb with
              | true =>
                go_wp2_with (first | (go_at_call 25; go_loud (refine (tab_put g 3 0 400 1 16 400 400 1 2 8 1 (k : Int) lo hi 100 0 M' _ _ M k T5.out B5.out HN.out.1 (by omega) HK.out HP.out).mono ?_; rintro en w3 ⟨rfl, a1, a2, a3⟩; have T3 := Aside0.mk a1; have B3 := Aside0.mk a2; have F3 := Aside0.mk (blk_below HZ.out a2); clear a1 a2 a3)) | (go_at_call 26; go_loud (refine (tab_at g 3 0 400 1 16 400 400 1 2 8 1 (k : Int) (100 + u) x y 0 _ _ M' (k + 1) T3.out HO.out HK.out HA.out).mono ?_; rintro en w4 ⟨rfl, a1⟩; have T4 := Aside0.mk (T3.out.below a1); have B4 := Aside0.mk (below_step B3.out a1); have F4 := Aside0.mk (blk_below HZ.out (below_step B3.out a1)); have c5 : w4.cell? ⟨cb, 5, none⟩ = some (.int .i64 400) := (blk_cell F4.out 5).trans rfl; clear a1)) | (go_at_call 29; go_loud (refine (ival_Inside.calls x y 400 true _ HI.out).mono ?_; rintro en w6 ⟨rfl, a1⟩; have T6 := Aside0.mk ((T4.out.alloc _).below a1); have B6 := Aside0.mk (below_step (below_alloc B4.out _) a1); clear a1)))
                go_roundw
                case rel => exact ⟨k + 1, M', nn + 1, rfl, by go_num, by omega, by omega, by omega, ⟨by rw [HS.out, if_pos (by simp), HE.out]⟩, HN2, T6, B6⟩
                case measure => simp [intOf]; omega
              | false =>
                go_wp2_with (first | (go_at_call 25; go_loud (refine (tab_put g 3 0 400 1 16 400 400 1 2 8 1 (k : Int) lo hi 100 0 M' _ _ M k T5.out B5.out HN.out.1 (by omega) HK.out HP.out).mono ?_; rintro en w3 ⟨rfl, a1, a2, a3⟩; have T3 := Aside0.mk a1; have B3 := Aside0.mk a2; have F3 := Aside0.mk (blk_below HZ.out a2); clear a1 a2 a3)) | (go_at_call 26; go_loud (refine (tab_at g 3 0 400 1 16 400 400 1 2 8 1 (k : Int) (100 + u) x y 0 _ _ M' (k + 1) T3.out HO.out HK.out HA.out).mono ?_; rintro en w4 ⟨rfl, a1⟩; have T4 := Aside0.mk (T3.out.below a1); have B4 := Aside0.mk (below_step B3.out a1); have F4 := Aside0.mk (blk_below HZ.out (below_step B3.out a1)); have c5 : w4.cell? ⟨cb, 5, none⟩ = some (.int .i64 400) := (blk_cell F4.out 5).trans rfl; clear a1)) | (go_at_call 29; go_loud (refine (ival_Inside.calls x y 400 false _ HI.out).mono ?_; rintro en w6 ⟨rfl, a1⟩; have T6 := Aside0.mk ((T4.out.alloc _).below a1); have B6 := Aside0.mk (below_step (below_alloc B4.out _) a1); clear a1)))
                go_roundw
                case rel => exact ⟨k + 1, M', nn, rfl, by go_num, by omega, by omega, by omega, ⟨by rw [HS.out, if_neg (by simp), HE.out]⟩, HN2, T6, B6⟩
                case measure => simp [intOf]; omega
            · have heb : (ee == 0) = false := beq_eq_false_iff_ne.2 he
              have HS2 : Aside0 (nearL 400 (upto 3 1 (2 * (3 * 400)) (1 + 2) M' (100 + u) (k + 1)) = nearL 400 (upto 3 1 (2 * (3 * 400)) (1 + 2) M (100 + u) k)) := ⟨by rw [HS.out, if_neg (fun h => he h.1)]⟩
              clear he
              go_wp2_with (first | (go_at_call 25; go_loud (refine (tab_put g 3 0 400 1 16 400 400 1 2 8 1 (k : Int) lo hi 100 0 M' _ _ M k T5.out B5.out HN.out.1 (by omega) HK.out HP.out).mono ?_; rintro en w3 ⟨rfl, a1, a2, a3⟩; have T3 := Aside0.mk a1; have B3 := Aside0.mk a2; have F3 := Aside0.mk (blk_below HZ.out a2); clear a1 a2 a3)) | (go_at_call 26; go_loud (refine (tab_at g 3 0 400 1 16 400 400 1 2 8 1 (k : Int) (100 + u) x y ee _ _ M' (k + 1) T3.out HO.out HK.out HA.out).mono ?_; rintro en w4 ⟨rfl, a1⟩; have T4 := Aside0.mk (T3.out.below a1); have B4 := Aside0.mk (below_step B3.out a1); have F4 := Aside0.mk (blk_below HZ.out (below_step B3.out a1)); have c5 : w4.cell? ⟨cb, 5, none⟩ = some (.int .i64 400) := (blk_cell F4.out 5).trans rfl; clear a1)))
              go_roundw
              case rel => exact ⟨k + 1, M', nn, rfl, by go_num, by omega, by omega, by omega, ⟨HS2.out.trans HE.out⟩, HN2, ⟨T4.out.alloc _⟩, ⟨below_alloc B4.out _⟩⟩
              case measure => simp [intOf]; omega
          · rw [if_neg hR] at HQ
            have HP := Aside0.mk HQ
            have HS := Aside0.mk (near_skip HN.out (100 + u))
            clear HQ hR
            go_wp2_with (first | (go_at_call 25; go_loud (refine (tab_put g 3 0 400 1 16 400 400 1 2 8 1 (k : Int) lo hi 100 1 M _ _ M k T5.out B5.out HN.out.1 (by omega) HK.out HP.out).mono ?_; rintro en w3 ⟨rfl, a1, a2, a3⟩; have T3 := Aside0.mk a1; have B3 := Aside0.mk a2; have F3 := Aside0.mk (blk_below HZ.out a2); clear a1 a2 a3)))
            go_roundw
            case rel => exact ⟨k + 1, M, nn, rfl, by go_num, by omega, by omega, by omega, ⟨HS.out.trans HE.out⟩, ⟨HN.out.skip⟩, T3, B3⟩
            case measure => simp [intOf]; omega
      · have h2b : decide ((k : Int) < 3) = false := decide_eq_false (by omega)
        have HE1 := Aside0.mk ((near_end HN.out hk3 (100 + u)).trans HE.out)
        have HE2 : Aside0 (nearL 400 (upto 3 1 (2 * (3 * 400)) (1 + 2) M 100000 3) = 1) := ⟨by rw [near_late HN.out]; rfl⟩
        have C1 := Aside0.mk (fun (W : World) (h : Tab zz W g 3 0 400 1 16 400 400 1 2 8 1 M k) => tab_near g 3 0 400 1 16 400 400 1 2 8 1 (100 + u) nn _ W M k h HN.out.1 HK.out HE1.out)
        have C2 := Aside0.mk (fun (W : World) (h : Tab zz W g 3 0 400 1 16 400 400 1 2 8 1 M k) => tab_near g 3 0 400 1 16 400 400 1 2 8 1 100000 1 _ W M k h HN.out.1 HK.out HE2.out)
        have HE3 : Aside0 (upto 3 1 (2 * (3 * 400)) (1 + 2) M 100000 3 = []) := ⟨near_late HN.out⟩
        go_wp2_with (first | (go_at_call 30; ((with_reducible refine (C1.out _ T5.out).mono ?_); rintro en w3 ⟨rfl, a1⟩; have T3 := Aside0.mk (T5.out.below a1); have B3 := Aside0.mk (below_step B5.out a1); clear a1)) | (go_at_call 30; ((with_reducible refine (C2.out _ T3.out).mono ?_); rintro en w4 ⟨rfl, a1⟩; have T4 := Aside0.mk (T3.out.below a1); have B4 := Aside0.mk (below_step B3.out a1); clear a1)) | (go_at_call 31; go_loud (refine (tab_fresh g 3 0 400 1 16 400 400 1 2 8 1 100000 [] _ _ M k T4.out HN.out.1 HK.out HE3.out).mono ?_; rintro en w6 ⟨v, rfl, a1, a2⟩; obtain ⟨A9, c9, rfl⟩ := own_nil a1; have B6 := Aside0.mk (below_step B4.out a2); clear a1 a2)) | (go_at_call 24; go_loud (refine (awake_ok _).mono ?_; rintro en w8 ⟨rfl, hb8⟩; have B8 := Aside0.mk (below_step B6.out hb8); clear hb8)))
        go_ret
        exact ⟨rfl, HB0.out.trans (B8.out.mono HB0.out.size)⟩
    · have h1b : decide ((k : Int) < (n0 : Int)) = false := decide_eq_false (by omega)
      have HE1 := Aside0.mk ((near_end HN.out hk3 (100 + u)).trans HE.out)
      have HE2 : Aside0 (nearL 400 (upto 3 1 (2 * (3 * 400)) (1 + 2) M 100000 3) = 1) := ⟨by rw [near_late HN.out]; rfl⟩
      have C1 := Aside0.mk (fun (W : World) (h : Tab zz W g 3 0 400 1 16 400 400 1 2 8 1 M k) => tab_near g 3 0 400 1 16 400 400 1 2 8 1 (100 + u) nn _ W M k h HN.out.1 HK.out HE1.out)
      have C2 := Aside0.mk (fun (W : World) (h : Tab zz W g 3 0 400 1 16 400 400 1 2 8 1 M k) => tab_near g 3 0 400 1 16 400 400 1 2 8 1 100000 1 _ W M k h HN.out.1 HK.out HE2.out)
      have HE3 : Aside0 (upto 3 1 (2 * (3 * 400)) (1 + 2) M 100000 3 = []) := ⟨near_late HN.out⟩
      go_wp2_with (first | (go_at_call 30; ((with_reducible refine (C1.out _ T5.out).mono ?_); rintro en w3 ⟨rfl, a1⟩; have T3 := Aside0.mk (T5.out.below a1); have B3 := Aside0.mk (below_step B5.out a1); clear a1)) | (go_at_call 30; ((with_reducible refine (C2.out _ T3.out).mono ?_); rintro en w4 ⟨rfl, a1⟩; have T4 := Aside0.mk (T3.out.below a1); have B4 := Aside0.mk (below_step B3.out a1); clear a1)) | (go_at_call 31; go_loud (refine (tab_fresh g 3 0 400 1 16 400 400 1 2 8 1 100000 [] _ _ M k T4.out HN.out.1 HK.out HE3.out).mono ?_; rintro en w6 ⟨v, rfl, a1, a2⟩; obtain ⟨A9, c9, rfl⟩ := own_nil a1; have B6 := Aside0.mk (below_step B4.out a2); clear a1 a2)) | (go_at_call 24; go_loud (refine (awake_ok _).mono ?_; rintro en w8 ⟨rfl, hb8⟩; have B8 := Aside0.mk (below_step B6.out hb8); clear hb8)))
      go_ret
      exact ⟨rfl, HB0.out.trans (B8.out.mono HB0.out.size)⟩

end Go.Proofs.Ytfaikkhnlioajaa.BrC
