/- A flood of one cell. -/
import Derived.Test.YtoeaoanaefipaaaProg
import Derived.Below
import Derived.Deep.Draws
import Derived.Deep.AppendLies
import Derived.Maps.AppendAt
import Derived.OwnWalk
import Derived.Laws.BytesArg
import Derived.Laws.MakeOwn
import Derived.Laws.OwnMore
import Derived.Deep.OwnRows
import Derived.Tactics
import Derived.Lib.ConvBytes
import Derived.Laws.Slices
import Derived.WalkKit
import Derived.KernelRfl
import Derived.RowKit3
import Derived.Deep.LoopGhost
import Derived.Deep.QuietTactic
import Derived.BigQuiet
import Derived.WideLaws
import Derived.Deep.DeepCutAuto
import Derived.Deep.CutBlock
import Derived.Deep.RegionHeld3
import Derived.Laws.Rows
import Derived.Lib.AppendStr
import Derived.ArgAppend
import Derived.Laws.IdiomCopy
import Derived.OrdersHeld
import Derived.Laws.BitsLemmas
import Derived.RowKit
import Derived.RegionTactic
import Derived.ChangeAlike
import Derived.Outline
import Derived.LoopTactic
import Derived.WalkSpells
import Derived.WalkLawsBesides
import Derived.Lib.Hide
import Derived.StillTailTactics
import Derived.Deep.RegionWith
import Derived.Deep.RegionLaw
import Derived.Deep.DeepFit
import Derived.Deep.DeepMust
import Derived.Test.YtoeaoanaefipaaaWWords
import Derived.Test.YtoeaoanaefipaaaWLast
import Derived.Test.YtoeaoanaefipaaaWTab
import Derived.Test.YtoeaoanaefipaaaWFour
import Derived.Test.YtoeaoanaefipaaaWQPut
import Derived.Test.YtoeaoanaefipaaaWApart
import Derived.Test.YtoeaoanaefipaaaWArr
import Derived.Test.YtoeaoanaefipaaaWZeros
import Derived.Test.YtoeaoanaefipaaaWFoot
import Derived.Test.YtoeaoanaefipaaaWKept
import Derived.Test.YtoeaoanaefipaaaWShare
import Derived.Test.YtoeaoanaefipaaaWN
import Derived.Test.YtoeaoanaefipaaaWFootNe
import Derived.Test.YtoeaoanaefipaaaWAt
import Derived.Test.YtoeaoanaefipaaaWEqStruct
import Derived.Test.YtoeaoanaefipaaaWRepsOne
import Derived.Test.YtoeaoanaefipaaaWInv
import Derived.Test.YtoeaoanaefipaaaWInvWords
import Derived.Test.YtoeaoanaefipaaaWGuard
import Derived.Test.YtoeaoanaefipaaaWNEv
import Derived.Test.YtoeaoanaefipaaaWMore
import Derived.Test.YtoeaoanaefipaaaBfb
namespace Go.Proofs.Ytoeaoanaefipaaa.Bfc
open Go.RowKit Go.Proofs.YtoeaoanaefipaaaW.PrintWords Go.Proofs.YtoeaoanaefipaaaW.PrintLast Go.Proofs.YtoeaoanaefipaaaW.PrintMore 
attribute [local go_sem] max2_int min2_int max_two min_two max_three min_three max_four min_four
set_option linter.unusedVariables false
set_option linter.unusedSimpArgs false
open Go.Maps Go.ChangeMaps Go.Proofs.Ytoeaoanaefipaaa.Bf1 Go.Proofs.Ytoeaoanaefipaaa.Bf2 Go.Proofs.Ytoeaoanaefipaaa.Bf3 Go.Proofs.Ytoeaoanaefipaaa.BfP Go.Proofs.Ytoeaoanaefipaaa.Bf4 Go.Proofs.Ytoeaoanaefipaaa.Bf5 Go.Proofs.Ytoeaoanaefipaaa.Bf6 Go.Proofs.Ytoeaoanaefipaaa.Bf7 Go.Proofs.Ytoeaoanaefipaaa.Bf8 Go.Proofs.Ytoeaoanaefipaaa.Bf9 Go.Proofs.Ytoeaoanaefipaaa.BfN Go.Proofs.Ytoeaoanaefipaaa.Bfa Go.Proofs.Ytoeaoanaefipaaa.BfQ Go.Proofs.Ytoeaoanaefipaaa.Bfb
attribute [local go_sem] cellS1 frozenS1 cellS2 frozenS2 cellS3 frozenS3 cellS4 frozenS4 cellS5 frozenS5 cellS6 frozenS6

theorem two_len (x y : Int) : [x, y].length ≤ maxLen := by unfold maxLen; show 2 ≤ 2 ^ 63 - 1; decide
theorem ByteB_C2 {w W : World} {n0 c : Nat} {A : Option Addr} {x y : Int} (h : ByteB w n0 (.slice A 2 c) [x, y]) (hb : Below w.heap.size w W) : Kd.C (Kd.int .u8) W A 2 [x, y] := by
  obtain ⟨A', c', e, hC⟩ := (h.kept (row := none) (grown_below hb) (fun r e => by cases e)).C (two_len x y)
  cases e
  exact hC
theorem gone_at {w : World} {n0 c : Nat} {A : Option Addr} {n : Nat} {G : List It} (h : Gone w n0 (.slice A n c) G) (i : Nat) (hi : i < G.length) : ∃ gb u, A = some ⟨gb, 0, none⟩ ∧ w.cell? ⟨gb, i, none⟩ = some u ∧ ByteB w n0 u (G.getD i dflt).2.2 := by
  obtain ⟨vs, h1, h2⟩ := h
  obtain ⟨u, h3, h4⟩ := h2 i hi
  rcases h1.2 with ⟨e, h0⟩ | ⟨g, cap, cur, e, hb, hg, hnc, _, hs, ht⟩
  · omega
  · cases e
    refine ⟨g, u, rfl, ?_, h4⟩
    rw [← ht, List.getElem?_take_of_lt (by omega)] at h3
    rw [blk_cell hg]
    simpa using h3
theorem two_in (x y : Int) (hx : 0 ≤ x ∧ x ≤ 255) (hy : 0 ≤ y ∧ y ≤ 255) : ∀ u ∈ [x, y], 0 ≤ u ∧ u ≤ 255 := by
  intro u hu
  simp at hu
  rcases hu with rfl | rfl
  · exact hx
  · exact hy
theorem flood_k (q h2 r2 k : Nat) (hq : q ≤ 255) (hb : h2 ≤ 20) (h0 : 0 < h2) (e4 : (q : Int) % (h2 : Int) = (r2 : Int)) (e5 : (1 : Int) + (r2 : Int) = (k : Int)) : wrap64 (1 + (q : Int) % wrap64 (h2 : Int)) = (k : Int) ∧ ¬ wrap64 (h2 : Int) = 0 := by
  have e6 : wrap64 (h2 : Int) = (h2 : Int) := by unfold wrap64; rw [Int.emod_eq_of_lt (by omega) (by omega)]; omega
  have hr : r2 ≤ 255 := by have h1 := Int.emod_lt_of_pos (q : Int) (show (0 : Int) < (h2 : Int) by omega); omega
  have e7 : wrap64 (k : Int) = (k : Int) := by unfold wrap64; rw [Int.emod_eq_of_lt (by omega) (by omega)]; omega
  rw [e6, e4, e5, e7]
  exact ⟨rfl, by omega⟩
set_option maxRecDepth 100000 in
set_option maxHeartbeats 400000 in
theorem flood_any (p q t : Nat) (hp : p ≤ 255) (hq : q ≤ 255) (ht : t ≤ 255) (w : World) : Calls Try.prog 3 #[.int .u8 (p : Int), .int .u8 (q : Int), .int .u8 (t : Int)] w fun en w' => en = .returned (.bool true) ∧ Below w.heap.size w w' := by
  obtain ⟨r, hr⟩ : ∃ r, p % 20 = r := ⟨_, rfl⟩
  obtain ⟨n, hn⟩ : ∃ n, 2 + r = n := ⟨_, rfl⟩
  obtain ⟨h2, hh2⟩ : ∃ h2, n / 2 = h2 := ⟨_, rfl⟩
  obtain ⟨r2, hr2⟩ : ∃ r2, q % h2 = r2 := ⟨_, rfl⟩
  obtain ⟨k, hk⟩ : ∃ k, 1 + r2 = k := ⟨_, rfl⟩
  have hrn : r < 20 := by omega
  have hh0 : 0 < h2 := by omega
  have hr2l : r2 < h2 := by rw [← hr2]; exact Nat.mod_lt q hh0
  have hnl : 2 ≤ n ∧ n ≤ 21 := by omega
  have hkn : 2 * k ≤ n := by omega
  have hk1 : 1 ≤ k := by omega
  have hk10 : k ≤ 10 := by omega
  have e1 : (p : Int).tmod 20 = (r : Int) := by rw [Int.tmod_eq_emod_of_nonneg (by omega)]; omega
  have e1b : (p : Int) % 20 = (r : Int) := by omega
  have e2 : (2 : Int) + (r : Int) = (n : Int) := by omega
  have e3 : (n : Int).tdiv 2 = (h2 : Int) := by rw [Int.tdiv_eq_ediv_of_nonneg (by omega)]; omega
  have e3b : (n : Int) / 2 = (h2 : Int) := by omega
  have e4b : (q : Int) % (h2 : Int) = (r2 : Int) := by rw [← hr2]; simp
  have e4 : (q : Int).tmod (h2 : Int) = (r2 : Int) := by rw [Int.tmod_eq_emod_of_nonneg (by omega)]; exact e4b
  have e5 : (1 : Int) + (r2 : Int) = (k : Int) := by omega
  have hnz : ((h2 : Int) == 0) = false := by simp; omega
  have hnz2 : ¬ (h2 : Int) = 0 := by omega
  have HNL := Aside0.mk hnl
  have HKN := Aside0.mk hkn
  have HK1 := Aside0.mk hk1
  clear hr hn hh2 hr2 hk hkn hk1 hnl
  go_enter Try.func3, Try.ntmps3
  go_upto_region 2 with (fail)
  have HKK := Aside0.mk (flood_k q h2 r2 k hq (by omega) hh0 e4b e5)
  clear e1 e1b e2 hrn hnz2
  go_upto_region 3 with (fail)
  · exact absurd (by assumption) HKK.out.2
  skip
  rw [HKK.out.1]
  clear HKK
  generalize wrap64 (h2 : Int) = zz
  clear e3 e3b e4 e4b e5 hnz hh0 hr2l r2 hp hq
  generalize (q : Int) % zz = zy
  have hk0 := HK1.out
  have hkn := HKN.out
  have hnl := HNL.out
  go_wp2_with (first | (go_at_call 7; go_loud (with_reducible refine (buf_new (n : Int) _ (by omega) (by omega)).mono ?_; rintro en w1 ⟨g, rfl, a1, a2⟩; have J1 := Aside0.mk a1; have J2 := Aside0.mk a2; clear a1 a2)))
  go_loopw [11] (fun vi wr => ∃ i : Nat, vi = .int .i64 i ∧ i ≤ k ∧ Aside0 (IsBuf w wr g (n : Int) (fl i) 0 (66 * i)) ∧ Aside0 (Below w.heap.size w wr)) (fun vi _ => k - (intOf vi).toNat)
  case atStart => exact ⟨0, rfl, Nat.zero_le _, J1, J2⟩
  case round =>
    obtain ⟨i, rfl, hi, L1, L2⟩ := hrel
    clear J1 J2
    by_cases hik : i < k
    · have hib : decide ((i : Int) < (k : Int)) = true := decide_eq_true (by omega)
      have hfp := fl_put (n : Int) 0 i (by omega)
      have HFP := Aside0.mk hfp
      have hmx : 66 * i + 66 < maxLen := by unfold maxLen; omega
      have HMX := Aside0.mk hmx
      clear hfp hmx
      go_wp2_with (first | (go_at_call 8; go_loud (refine (buf_put g (n : Int) (fl i) 0 (66 * i) 0 1 (some ⟨wr.heap.size, 0, none⟩) [1, (i : Int)] 2 w _ (L1.out.alloc _) (fun W hW => bytes_C (cs := #[.int .u8 1, .int .u8 (i : Int)]) (fr := (0, 0)) (blk_new _ _) (two_get 1 i) (two_len _ _) hW) (two_in 1 i (by omega) (by omega)) HMX.out (two_len _ _)).mono ?_; rw [HFP.out]; rintro en w2 ⟨rfl, a1, a2⟩; have M1 := Aside0.mk a1; have M2 := Aside0.mk a2; clear a1 a2)))
      go_roundw
      case rel => exact ⟨i + 1, by go_num, by omega, ⟨M1.out.mono (by omega)⟩, ⟨M2.out.below (below_alloc L2.out _) (Nat.le_refl _)⟩⟩
      case measure => simp [intOf]; omega
    · have hib : decide ((i : Int) < (k : Int)) = false := decide_eq_false (by omega)
      obtain rfl : k = i := by omega
      go_wp2
      go_loopw [12] (fun vi w3 => ∃ (i : Nat) (lo : Int) (F : List It), vi = .int .i64 i ∧ i ≤ t ∧ Aside0 (∀ x ∈ F, x.1 = 0 ∧ x.2.1 = 2) ∧ Aside0 (IsBuf w w3 g (n : Int) (fl k ++ F) lo (66 * (k + i))) ∧ Aside0 (Below w.heap.size w w3)) (fun vi _ => t - (intOf vi).toNat)
      case atStart => exact ⟨0, 0, [], rfl, Nat.zero_le _, ⟨fun x hx => absurd hx List.not_mem_nil⟩, ⟨by rw [List.append_nil]; exact L1.out⟩, L2⟩
      case round =>
        obtain ⟨i, lo, F, rfl, hi, HF, N1, N2⟩ := hrel
        clear L1 L2
        by_cases hik : i < t
        · have hib : decide ((i : Int) < (t : Int)) = true := decide_eq_true (by omega)
          obtain ⟨F', hF', eF⟩ := flood_step (n : Int) lo k F [2, (i : Int)] HF.out N1.out.ok (by omega) hk0
          have HF' := Aside0.mk hF'
          have EF := Aside0.mk eF
          have hmx : 66 * (k + i) + 66 < maxLen := by unfold maxLen; omega
          have HMX := Aside0.mk hmx
          obtain ⟨PP, hPP⟩ : ∃ PP, putS (n : Int) (fl k ++ F) lo 0 2 [2, (i : Int)] = PP := ⟨_, rfl⟩
          rw [hPP] at EF
          have HPP := Aside0.mk hPP
          clear hF' eF hmx hPP
          go_wp2_with (first | (go_at_call 8; go_loud (refine (buf_put g (n : Int) (fl k ++ F) lo (66 * (k + i)) 0 2 (some ⟨wr.heap.size, 0, none⟩) [2, (i : Int)] 2 w _ (N1.out.alloc _) (fun W hW => bytes_C (cs := #[.int .u8 2, .int .u8 (i : Int)]) (fr := (0, 0)) (blk_new _ _) (two_get 2 i) (two_len _ _) hW) (two_in 2 i (by omega) (by omega)) HMX.out (two_len _ _)).mono ?_; rw [HPP.out]; rintro en w2 ⟨rfl, a1, a2⟩; have M1 := Aside0.mk a1; have M2 := Aside0.mk a2; clear a1 a2)))
          go_roundw
          case rel => exact ⟨i + 1, _, F', by go_num, by omega, HF', ⟨by have := M1.out; rw [EF.out] at this; exact this.mono (by omega)⟩, ⟨M2.out.below (below_alloc N2.out _) (Nat.le_refl _)⟩⟩
          case measure => simp [intOf]; omega
        · have hib : decide ((i : Int) < (t : Int)) = false := decide_eq_false (by omega)
          have hmx : 66 * (k + i) + 64 < maxLen := by unfold maxLen; omega
          have HMX := Aside0.mk hmx
          clear hmx
          go_wp2_with (first | (go_at_call 9; go_loud (refine (buf_take g (n : Int) (fl k ++ F) lo (66 * (k + i)) 0 1 w _ N1.out HMX.out).mono ?_; rw [flood_take k F HF.out, fl_len]; rintro en w4 ⟨A, c, rfl, a1, a2, a3⟩; have M1 := Aside0.mk a1; have M2 := Aside0.mk a2; have M3 := Aside0.mk a3; clear a1 a2 a3)))
          go_loopw [14] (fun vi w5 => ∃ i : Nat, vi = .int .i64 i ∧ i ≤ k ∧ Aside0 (Below w4.heap.size w4 w5)) (fun vi _ => k - (intOf vi).toNat)
          case atStart => exact ⟨0, rfl, Nat.zero_le _, ⟨Below.refl _ _⟩⟩
          case round =>
            obtain ⟨e, rfl, he, B5⟩ := hrel
            by_cases hek : e < k
            · have heb : decide ((e : Int) < (k : Int)) = true := decide_eq_true (by omega)
              obtain ⟨gb, u, eA, hcell, hbb⟩ := gone_at (M1.out.below B5.out) e (by rw [fl_len]; exact hek)
              subst eA
              rw [fl_at k e hek] at hbb
              obtain ⟨A2, c2, eu, hC2⟩ := hbb.C (two_len _ _)
              subst eu
              have d0 : wr.drew.cell? ⟨gb, e, none⟩ = some (.slice A2 2 c2) := hcell
              have d1 : (wr.alloc (.cells #[.int .u8 1, .int .u8 (e : Int)] 5)).drew.cell? ⟨gb, e, none⟩ = some (.slice A2 2 c2) := cell_bel (w := wr) (below_alloc (Below.refl _ _) (.cells #[.int .u8 1, .int .u8 (e : Int)] 5)) hcell
              have v1 : (convert 27 9 (.slice A2 2 c2)).run Try.prog wr.drew = .ok (.string (strOfNums [1, (e : Int)])) wr.drew := Kd.C_string Try.underlying27 Try.underlying5 Try.underlying9 (ByteB_C2 hbb (below_drew1 (Below.refl _ _)))
              have v2 : (convert 27 9 (.slice A2 2 c2)).run Try.prog (wr.alloc (.cells #[.int .u8 1, .int .u8 (e : Int)] 5)).drew = .ok (.string (strOfNums [1, (e : Int)])) (wr.alloc (.cells #[.int .u8 1, .int .u8 (e : Int)] 5)).drew := Kd.C_string Try.underlying27 Try.underlying5 Try.underlying9 (ByteB_C2 hbb (below_alloc (below_drew1 (Below.refl _ _)) _))
              have v3 : (convert 27 9 (.slice (some ⟨wr.heap.size, 0, none⟩) 2 2)).run Try.prog (wr.alloc (.cells #[.int .u8 1, .int .u8 (e : Int)] 5)).drew = .ok (.string (strOfNums [1, (e : Int)])) (wr.alloc (.cells #[.int .u8 1, .int .u8 (e : Int)] 5)).drew := Kd.C_string Try.underlying27 Try.underlying5 Try.underlying9 (bytes_C (z := wr.drew) (cs := #[.int .u8 1, .int .u8 (e : Int)]) (fr := (0, 0)) (blk_new wr.drew _) (two_get 1 e) (two_len _ _) (Keep.refl _ _))
              have heq : ((strOfNums [1, (e : Int)]).toList == (strOfNums [1, (e : Int)]).toList) = true := by simp
              have hz0 : (0 : Int) ≤ (e : Int) := by omega
              have hz1 : (e : Int) < (k : Int) := by omega
              clear hcell hbb hC2
              go_upto_region 21 with (fail)
              go_region
              all_goals go_wp2
              go_roundw
              case rel => exact ⟨e + 1, by go_num, by omega, ⟨below_alloc (below_drew1 B5.out) _⟩⟩
              case measure => simp [intOf]; omega
            · have heb : decide ((e : Int) < (k : Int)) = false := decide_eq_false (by omega)
              have hlen := M2.out.len.1
              obtain ⟨LL, hLL⟩ : ∃ LL, (fl k ++ F).filter (fun x => !atC 0 1 x) = LL := ⟨_, rfl⟩
              rw [hLL] at M2 hlen
              have hlb : decide ((LL.length : Int) ≤ (n : Int)) = true := decide_eq_true hlen
              clear hLL
              go_wp2_with (first | (go_at_call 10; go_loud (refine (buf_len g (n : Int) LL lo _ w _ (M2.out.below B5.out)).mono ?_; rintro en w6 ⟨rfl, rfl⟩)) | (go_at_call 11; go_loud (refine (awake_ok _).mono ?_; rintro en wz ⟨rfl, hbz⟩; have BZ := Aside0.mk hbz; clear hbz)))
              go_ret
              exact ⟨rfl, below_step (below_step (M3.out.below N2.out (Nat.le_refl _)) B5.out) BZ.out⟩
theorem flood_law (p q t : Int) (w : World) (hp : 0 ≤ p ∧ p ≤ 255) (hq : 0 ≤ q ∧ q ≤ 255) (ht : 0 ≤ t ∧ t ≤ 255) : Calls Try.prog 3 #[.int .u8 p, .int .u8 q, .int .u8 t] w fun en w' => en = .returned (.bool true) ∧ Below w.heap.size w w' := by
  obtain ⟨p', rfl⟩ := Int.eq_ofNat_of_zero_le hp.1
  obtain ⟨q', rfl⟩ := Int.eq_ofNat_of_zero_le hq.1
  obtain ⟨t', rfl⟩ := Int.eq_ofNat_of_zero_le ht.1
  exact flood_any p' q' t' (by omega) (by omega) (by omega) w
end Go.Proofs.Ytoeaoanaefipaaa.Bfc
