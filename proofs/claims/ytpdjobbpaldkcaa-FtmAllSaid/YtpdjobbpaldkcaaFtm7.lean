/- The law that asks all: its walk. -/
import Derived.Test.YtpdjobbpaldkcaaProg
import Derived.Below
import Derived.Deep.Draws
import Derived.Deep.AppendLies
import Derived.Maps.AppendAt
import Derived.OwnWalk
import Derived.Laws.BytesArg
import Derived.Laws.MakeOwn
import Derived.Laws.OwnMore
import Derived.Deep.OwnRows
import Derived.Tactics
import Derived.Lib.ConvBytes
import Derived.Laws.Slices
import Derived.WalkKit
import Derived.KernelRfl
import Derived.RowKit3
import Derived.Deep.LoopGhost
import Derived.Deep.QuietTactic
import Derived.BigQuiet
import Derived.WideLaws
import Derived.Deep.DeepCutAuto
import Derived.Deep.CutBlock
import Derived.Deep.RegionHeld3
import Derived.Laws.Rows
import Derived.Lib.AppendStr
import Derived.ArgAppend
import Derived.Laws.IdiomCopy
import Derived.OrdersHeld
import Derived.Laws.BitsLemmas
import Derived.RowKit
import Derived.RegionTactic
import Derived.ChangeAlike
import Derived.Outline
import Derived.LoopTactic
import Derived.WalkSpells
import Derived.WalkLawsBesides
import Derived.Lib.Hide
import Derived.StillTailTactics
import Derived.Deep.RegionWith
import Derived.Deep.RegionLaw
import Derived.Deep.DeepFit
import Derived.Deep.DeepMust
import Derived.Test.YtpdjobbpaldkcaaWWords
import Derived.Test.YtpdjobbpaldkcaaWLast
import Derived.Test.YtpdjobbpaldkcaaWTab
import Derived.Test.YtpdjobbpaldkcaaWFour
import Derived.Test.YtpdjobbpaldkcaaWQPut
import Derived.Test.YtpdjobbpaldkcaaWApart
import Derived.Test.YtpdjobbpaldkcaaWArr
import Derived.Test.YtpdjobbpaldkcaaWZeros
import Derived.Test.YtpdjobbpaldkcaaWFoot
import Derived.Test.YtpdjobbpaldkcaaWKept
import Derived.Test.YtpdjobbpaldkcaaWShare
import Derived.Test.YtpdjobbpaldkcaaWN
import Derived.Test.YtpdjobbpaldkcaaWFootNe
import Derived.Test.YtpdjobbpaldkcaaWAt
import Derived.Test.YtpdjobbpaldkcaaWEqStruct
import Derived.Test.YtpdjobbpaldkcaaWRepsOne
import Derived.Test.YtpdjobbpaldkcaaWInv
import Derived.Test.YtpdjobbpaldkcaaWInvWords
import Derived.Test.YtpdjobbpaldkcaaWGuard
import Derived.Test.YtpdjobbpaldkcaaWNEv
import Derived.Test.YtpdjobbpaldkcaaWMore
import Derived.Test.YtpdjobbpaldkcaaFtm6
import Derived.Test.YtpdjobbpaldkcaaQLawsx1
namespace Go.Proofs.Ytpdjobbpaldkcaa.Ftm7
open Go.RowKit Go.Proofs.YtpdjobbpaldkcaaW.PrintWords Go.Proofs.YtpdjobbpaldkcaaW.PrintLast Go.Proofs.YtpdjobbpaldkcaaW.PrintMore 
attribute [local go_sem] max2_int min2_int max_two min_two max_three min_three max_four min_four
set_option linter.unusedVariables false
set_option linter.unusedSimpArgs false
open Go.Proofs.Ytpdjobbpaldkcaa.QFtm Go.Proofs.Ytpdjobbpaldkcaa.Ftm1 Go.Proofs.Ytpdjobbpaldkcaa.Ftm2 Go.Proofs.Ytpdjobbpaldkcaa.Ftm5 Go.Proofs.Ytpdjobbpaldkcaa.Ftm6
theorem awake_any (w : World) : Calls Try.prog 7 #[] w fun e w' => e = .returned (.bool true) ∧ Below w.heap.size w w' := by
  have h : QLaws.carillonlaw25_awake.f = some true := by
    unfold QLaws.carillonlaw25_awake.f QLaws.ftm_Middle.f
    rw [if_pos (by decide), show midF [-100, 0, 4, 6, 900] 1 = (3, 0) from by decide]
    rfl
  exact QLaws.carillonlaw25_awake.calls true w h
theorem drawn_below {w w' : World} (h : Drawn0 w w') : Below w.heap.size w w' := h.below
theorem numbers_loop (l : List Int) (hl : l.length < 1000000) (d : Nat) : ∀ (k i : Nat), d < k → l.length - i ≤ d → i ≤ l.length → carillonlaw25_numbers.l0 k l l (i : Int) = some true := by
  induction d with
  | zero =>
    intro k i hk hd hi
    obtain ⟨k, rfl⟩ : ∃ q, k = q + 1 := ⟨k - 1, by omega⟩
    simp only [carillonlaw25_numbers.l0]
    rw [if_neg (by omega)]
  | succ d ih =>
    intro k i hk hd hi
    obtain ⟨k, rfl⟩ : ∃ q, k = q + 1 := ⟨k - 1, by omega⟩
    simp only [carillonlaw25_numbers.l0]
    by_cases hc : i < l.length
    · have hw : wrap64 ((i : Int) + 1) = ((i + 1 : Nat) : Int) := by rw [w64 (by omega) (by omega)]; omega
      rw [if_pos (by omega), if_pos (by omega), if_pos (by omega), if_pos trivial, hw]
      exact ih k (i + 1) (by omega) (by omega) (by omega)
    · rw [if_neg (by omega)]
set_option maxHeartbeats 8000000 in
set_option maxRecDepth 100000 in
theorem numbers_calls (k : Nat) (A0 : Option Addr) (c0 : Nat) (l0 : List Int) (A1 : Option Addr) (c1 : Nat) (l1 : List Int) (r : Bool) (w : World) (hr0 : Kd.C (Kd.int .i64) w A0 l0.length l0) (hr1 : Kd.C (Kd.int .i64) w A1 l1.length l1) (h : carillonlaw25_numbers.f k l0 l1 = some r) :
    Calls Try.prog 15 #[.slice A0 l0.length c0, .slice A1 l1.length c1] w fun e w' => e = .returned (.bool r) ∧ Drawn0 w w' := by
  have HR0 := Aside0.mk hr0
  clear hr0
  have HR1 := Aside0.mk hr1
  clear hr1
  have H : (if (l0.length : Int) = (l1.length : Int) then (carillonlaw25_numbers.l0 k l0 l1 0) else (some false)) = some r := h
  clear h
  by_cases c3 : (l0.length : Int) = (l1.length : Int)
  · rw [if_pos c3] at H
    have c3b0 : ((l0.length : Int) == (l1.length : Int)) = true := beq_iff_eq.mpr c3
    have c3b1 : ((l0.length : Int) != (l1.length : Int)) = false := bne_eq_false_iff_eq.mpr c3
    have c3b2 : (l0.length == l1.length) = true := by first | simpa using c3 | (simp at c3 ⊢; omega)
    clear c3
    have H' := Aside0.mk H
    clear H
    go_enter Try.func15, Try.ntmps15
    go_wp2
    repeat (go_quiet (fail); try go_wp2)
    go_loopg [5] k (fun kq v5 w' => ∃ (x5_1 : Int), v5 = .int .i64 x5_1 ∧ Aside0 (carillonlaw25_numbers.l0 kq l0 l1 x5_1 = some r) ∧ Aside0 (kq ≤ k) ∧ Drawn0 w w')
    case atStart => exact ⟨(0), (by first | rfl | (simp; done) | (simp [*]; done)), H', ⟨Nat.le_refl _⟩, by repeat (first | exact Drawn0.refl _ | apply Drawn0.step)⟩
    case round =>
      clear H'
      try clear c1
      try clear p2
      try clear c3
      try clear c3b0
      try clear c3b1
      try clear c3b2
      obtain ⟨x5_1, rfl, HA, HK1, ⟨m1, rfl⟩⟩ := hrel
      cases gk with
      | zero => exact absurd HA.out (by simp [carillonlaw25_numbers.l0])
      | succ k1 =>
        have H := HA.out
        clear HA
        simp only [carillonlaw25_numbers.l0] at H
        by_cases c4 : x5_1 < (l0.length : Int)
        · rw [if_pos c4] at H
          have c4b0 : decide (x5_1 < (l0.length : Int)) = true := decide_eq_true c4
          clear c4
          by_cases c5 : 0 ≤ x5_1
          · rw [if_pos c5] at H
            have c5b0 : decide (0 ≤ x5_1) = true := decide_eq_true c5
            clear c5
            by_cases c6 : x5_1 < (l1.length : Int)
            · rw [if_pos c6] at H
              have c6b0 : decide (x5_1 < (l1.length : Int)) = true := decide_eq_true c6
              clear c6
              by_cases c7 : (rd l0 x5_1) = (rd l1 x5_1)
              · rw [if_pos c7] at H
                have c7b0 : ((rd l0 x5_1) == (rd l1 x5_1)) = true := beq_iff_eq.mpr c7
                have c7b1 : ((rd l0 x5_1) != (rd l1 x5_1)) = false := bne_eq_false_iff_eq.mpr c7
                clear c7
                have H' := Aside0.mk H
                clear H
                have p195 : 0 ≤ (x5_1 : Int) := of_decide_eq_true (by first | (with_reducible assumption) | assumption)
                have q195 : x5_1 < (l0.length : Int) := of_decide_eq_true (by first | (with_reducible assumption) | assumption)
                obtain ⟨ad195, e195, hx195_0⟩ := Kd.at_int HR0.out x5_1 p195 q195
                cases e195
                replace p195 := eq_true p195
                replace q195 := eq_true q195
                have p196 : 0 ≤ (x5_1 : Int) := of_decide_eq_true (by first | (with_reducible assumption) | assumption)
                have q196 : x5_1 < (l1.length : Int) := of_decide_eq_true (by first | (with_reducible assumption) | assumption)
                obtain ⟨ad196, e196, hx196_0⟩ := Kd.at_int HR1.out x5_1 p196 q196
                cases e196
                replace p196 := eq_true p196
                replace q196 := eq_true q196
                go_wp2
                repeat (go_quiet (fail); try go_wp2)
                go_roundg k1
                case measure => have := HK1.out; omega
                case rel => exact ⟨(wrap64 (x5_1 + 1)), (by first | rfl | (simp; done) | (simp [*]; done)), H', ⟨by have := HK1.out; omega⟩, by repeat (first | exact Drawn0.refl _ | apply Drawn0.step)⟩
              · rw [if_neg c7] at H
                have c7b0 : ((rd l0 x5_1) == (rd l1 x5_1)) = false := beq_eq_false_iff_ne.mpr c7
                have c7b1 : ((rd l0 x5_1) != (rd l1 x5_1)) = true := bne_iff_ne.mpr c7
                obtain rfl := Option.some.inj H
                have p195 : 0 ≤ (x5_1 : Int) := of_decide_eq_true (by first | (with_reducible assumption) | assumption)
                have q195 : x5_1 < (l0.length : Int) := of_decide_eq_true (by first | (with_reducible assumption) | assumption)
                obtain ⟨ad195, e195, hx195_0⟩ := Kd.at_int HR0.out x5_1 p195 q195
                cases e195
                replace p195 := eq_true p195
                replace q195 := eq_true q195
                have p196 : 0 ≤ (x5_1 : Int) := of_decide_eq_true (by first | (with_reducible assumption) | assumption)
                have q196 : x5_1 < (l1.length : Int) := of_decide_eq_true (by first | (with_reducible assumption) | assumption)
                obtain ⟨ad196, e196, hx196_0⟩ := Kd.at_int HR1.out x5_1 p196 q196
                cases e196
                replace p196 := eq_true p196
                replace q196 := eq_true q196
                go_wp2
                repeat (go_quiet (fail); try go_wp2)
                go_ret
                exact ⟨by first | rfl | (simp; done) | (simp [*]; done), by repeat (first | exact Drawn0.refl _ | apply Drawn0.step)⟩
            · rw [if_neg c6] at H
              exact absurd H (by simp)
          · rw [if_neg c5] at H
            exact absurd H (by simp)
        · rw [if_neg c4] at H
          have c4b0 : decide (x5_1 < (l0.length : Int)) = false := decide_eq_false c4
          clear c4
          obtain rfl := Option.some.inj H
          go_wp2
          repeat (go_quiet (fail); try go_wp2)
          go_ret
          exact ⟨by first | rfl | (simp; done) | (simp [*]; done), by repeat (first | exact Drawn0.refl _ | apply Drawn0.step)⟩
  · rw [if_neg c3] at H
    have c3b0 : ((l0.length : Int) == (l1.length : Int)) = false := beq_eq_false_iff_ne.mpr c3
    have c3b1 : ((l0.length : Int) != (l1.length : Int)) = true := bne_iff_ne.mpr c3
    have c3b2 : (l0.length == l1.length) = false := by first | simpa using c3 | (simp at c3 ⊢; omega)
    obtain rfl := Option.some.inj H
    go_enter Try.func15, Try.ntmps15
    go_wp2
    repeat (go_quiet (fail); try go_wp2)
    go_ret
    exact ⟨by first | rfl | (simp; done) | (simp [*]; done), by repeat (first | exact Drawn0.refl _ | apply Drawn0.step)⟩

theorem numbers_any (A0 : Option Addr) (c0 : Nat) (A1 : Option Addr) (c1 : Nat) (l : List Int) (w : World) (h0 : Kd.C (Kd.int .i64) w A0 l.length l) (h1 : Kd.C (Kd.int .i64) w A1 l.length l) (hl : l.length < 1000000) :
    Calls Try.prog 15 #[.slice A0 l.length c0, .slice A1 l.length c1] w fun e w' => e = .returned (.bool true) ∧ Drawn0 w w' := by
  refine numbers_calls (l.length + 1) A0 c0 l A1 c1 l true w h0 h1 ?_
  unfold carillonlaw25_numbers.f
  rw [if_pos rfl]
  exact numbers_loop l hl l.length (l.length + 1) 0 (by omega) (by omega) (by omega)
theorem trim_len (l : List Int) (f : Int) (h : l.length < 1000000) : (trimF l f).1.length < 1000000 := by
  unfold trimF
  split
  · simp
  · split
    · split
      · simp
      · simp [srt_length]; omega
    · simp
set_option maxRecDepth 100000 in
set_option maxHeartbeats 4000000 in
theorem all_any (A0 : Option Addr) (c0 : Nat) (l : List Int) (A1 : Option Addr) (c1 : Nat) (x : List S31) (f most : Int) (w : World) (hr : Kd.C (Kd.int .i64) w A0 l.length l) (hc0 : l.length ≤ c0) (hx : Kd.C k31 w A1 x.length x) (hc1 : x.length ≤ c1) (b0 : (l.length : Int) ≤ 9223372036854775807) (b1 : (x.length : Int) ≤ 9223372036854775807) (f0 : -9223372036854775808 ≤ f) (f1 : f ≤ 9223372036854775807) : Calls Try.prog 6 #[.slice A0 l.length c0, .slice A1 x.length c1, .int .i64 f, .int .i64 most] w fun e w' => e = .returned (.bool true) ∧ Below w.heap.size w w' := by
  by_cases hl : (l.length : Int) > 200
  · clear hr hx
    go_enter Try.func6, Try.ntmps6
    go_wp2_with fail
    refine (awake_any _).mono ?_
    rintro e w1 ⟨rfl, hB⟩
    go_wp2
    go_ret
    exact ⟨rfl, hB⟩
  · by_cases hl2 : (x.length : Int) > 200
    · clear hr hx
      have hl' : (l.length : Int) ≤ 200 := by omega
      clear hl
      go_enter Try.func6, Try.ntmps6
      go_wp2_with fail
      refine (awake_any _).mono ?_
      rintro e w1 ⟨rfl, hB⟩
      go_wp2
      go_ret
      exact ⟨rfl, hB⟩
    · have hl3 : (l.length : Int) ≤ 200 := by omega
      have hl4 : (x.length : Int) ≤ 200 := by omega
      clear hl hl2
      obtain ⟨ys, hys⟩ : ∃ ys, (trimF l f).1 = ys := ⟨_, rfl⟩
      obtain ⟨r, hr2⟩ : ∃ r, (trimF l f).2 = r := ⟨_, rfl⟩
      have HT := Aside0.mk (show trimF l f = (ys, r) from Prod.ext hys hr2)
      obtain ⟨m, hm⟩ : ∃ m, (midF l f).1 = m := ⟨_, rfl⟩
      obtain ⟨me, hme⟩ : ∃ m, (midF l f).2 = m := ⟨_, rfl⟩
      have HM := Aside0.mk hm
      have HME := Aside0.mk hme
      obtain ⟨q, hq⟩ : ∃ m, (corF x f most).1 = m := ⟨_, rfl⟩
      obtain ⟨qe, hqe⟩ : ∃ m, (corF x f most).2 = m := ⟨_, rfl⟩
      have HQ := Aside0.mk hq
      have HQE := Aside0.mk hqe
      have HR := Aside0.mk hr
      have HX := Aside0.mk hx
      have HL := Aside0.mk (show l.length * 8 ≤ 140737488351232 by omega)
      have HYL := Aside0.mk (show ys.length < 1000000 by rw [← hys]; exact trim_len l f (by omega))
      clear hys hr2 hm hme hq hqe hr hx
      go_enter Try.func6, Try.ntmps6
      go_wp2_with fail
      refine (trim_at A0 c0 l f _ HR.out HL.out f0 f1 ys r HT.out).mono ?_
      rintro e w1 ⟨A2, c2, rfl, hC, hB⟩
      have HC1 := Aside0.mk hC
      have HB1 := Aside0.mk hB
      clear hC hB
      go_wp2_with fail
      refine (rtrim_at A0 c0 l f _ (Kd.C_below HR.out HB1.out) hc0 (by omega) f0 f1 ys r HT.out).mono ?_
      rintro e w2 ⟨A3, c3, rfl, hC, hB⟩
      have HC2 := Aside0.mk hC
      have HB2 := Aside0.mk (below_step HB1.out hB)
      have HC1' := Aside0.mk (Kd.C_below HC1.out hB)
      clear hC hB HC1
      have HC1 := HC1'
      clear HC1'
      go_wp2_with fail
      refine (middle_any A0 c0 l f _ (Kd.C_below HR.out HB2.out) HL.out f0 f1).mono ?_
      rintro e w3 ⟨rfl, hB⟩
      rw [HM.out, HME.out]
      have HB3 := Aside0.mk (below_step HB2.out hB)
      have HC1' := Aside0.mk (Kd.C_below HC1.out hB)
      have HC2' := Aside0.mk (Kd.C_below HC2.out hB)
      clear hB HC1 HC2
      have HC1 := HC1'
      have HC2 := HC2'
      clear HC1' HC2'
      go_wp2_with fail
      refine (rmiddle_any A0 c0 l f _ (Kd.C_below HR.out HB3.out) hc0 (by omega) f0 f1).mono ?_
      rintro e w4 ⟨rfl, hB⟩
      rw [HM.out, HME.out]
      have HB4 := Aside0.mk (below_step HB3.out hB)
      have HC1' := Aside0.mk (Kd.C_below HC1.out hB)
      have HC2' := Aside0.mk (Kd.C_below HC2.out hB)
      clear hB HC1 HC2
      have HC1 := HC1'
      clear HC1'
      have HC2 := HC2'
      clear HC2'
      go_wp2_with fail
      refine (correct_any A1 c1 x f most _ (Kd.C_below HX.out HB4.out) hc1 (by omega) f0 f1).mono ?_
      rintro e w5 ⟨rfl, hB⟩
      rw [HQ.out, HQE.out]
      have HB5 := Aside0.mk (below_step HB4.out hB)
      have HC1' := Aside0.mk (Kd.C_below HC1.out hB)
      have HC2' := Aside0.mk (Kd.C_below HC2.out hB)
      clear hB HC1 HC2
      have HC1 := HC1'
      clear HC1'
      have HC2 := HC2'
      clear HC2'
      go_wp2_with fail
      refine (rcorrect_any A1 c1 x f most _ (Kd.C_below HX.out HB5.out) hc1 (by omega) f0 f1).mono ?_
      rintro e w6 ⟨rfl, hB⟩
      rw [HQ.out, HQE.out]
      have HB6 := Aside0.mk (below_step HB5.out hB)
      have HC1' := Aside0.mk (Kd.C_below HC1.out hB)
      have HC2' := Aside0.mk (Kd.C_below HC2.out hB)
      clear hB HC1 HC2
      have HC1 := HC1'
      clear HC1'
      have HC2 := HC2'
      clear HC2'
      go_wp2_with fail
      have hp1 : ftm_Points.f (x.length + 1) x = some (ptsF x) := by
        unfold ftm_Points.f
        have := ftm_Points_loop x (by omega) x.length (x.length + 1) 0 [] (by omega) (by omega) (by omega) (by simp)
        simpa using this
      have hp2 : carillonref25_Points.f (x.length + 1) x = some (ptsF x) := by
        unfold carillonref25_Points.f
        have := carillonref25_Points_loop x (by omega) x.length (x.length + 1) 0 [] (by omega) (by omega) (by omega) (by simp)
        simpa using this
      have hpl := ptsF_len x
      refine (numbers_any A2 c2 A3 c3 ys _ HC1.out HC2.out HYL.out).mono ?_
      rintro e w7 ⟨rfl, hD⟩
      have HB7 := Aside0.mk (below_step HB6.out (drawn_below hD))
      clear hD HC1 HC2
      go_wp2_with fail
      refine (ftm_Points.calls _ A1 c1 x (ptsF x) _ (Kd.C_below HX.out HB7.out) hc1 hp1).mono ?_
      rintro e w8 ⟨v0, rfl, hR, hB⟩
      obtain ⟨A4, c4, rfl, hcc4, hC⟩ := Kd.R_reads hR
      have HB8 := Aside0.mk (below_step HB7.out hB)
      have HC4 := Aside0.mk hC
      clear hR hB hC
      go_wp2_with fail
      refine (carillonref25_Points.calls _ A1 c1 x (ptsF x) _ (Kd.C_below HX.out HB8.out) hc1 hp2).mono ?_
      rintro e w9 ⟨v1, rfl, hR, hB⟩
      obtain ⟨A5, c5, rfl, hcc5, hC⟩ := Kd.R_reads hR
      have HB9 := Aside0.mk (below_step HB8.out hB)
      have HC5 := Aside0.mk hC
      have HC4b := Aside0.mk (Kd.C_below HC4.out hB)
      clear hR hB hC HC4
      go_wp2_with fail
      refine (numbers_any A4 c4 A5 c5 (ptsF x) _ HC4b.out HC5.out (by omega)).mono ?_
      rintro e w10 ⟨rfl, hD⟩
      have HB10 := Aside0.mk (below_step HB9.out (drawn_below hD))
      clear hD HC4b HC5
      go_wp2_with fail
      refine (ftm_Clamp.calls most 7 (clampF most 7) _ rfl).mono ?_
      rintro e w11 ⟨rfl, hB⟩
      have HB11 := Aside0.mk (below_step HB10.out hB)
      clear hB
      go_wp2_with fail
      refine (carillonref25_Clamp.calls most 7 (clampF most 7) _ rfl).mono ?_
      rintro e w12 ⟨rfl, hB⟩
      have HB12 := Aside0.mk (below_step HB11.out hB)
      clear hB
      go_wp2_with fail
      refine (awake_any _).mono ?_
      rintro e w13 ⟨rfl, hB⟩
      have HB13 := Aside0.mk (below_step HB12.out hB)
      clear hB
      go_wp2
      go_ret
      exact ⟨by simp, HB13.out⟩
end Go.Proofs.Ytpdjobbpaldkcaa.Ftm7
