/- In order, each once. -/
import Derived.Test.YtmofahlmcpeanaaProg
import Derived.Below
import Derived.Deep.Draws
import Derived.Deep.AppendLies
import Derived.Maps.AppendAt
import Derived.OwnWalk
import Derived.Laws.BytesArg
import Derived.Laws.MakeOwn
import Derived.Laws.OwnMore
import Derived.Deep.OwnRows
import Derived.Tactics
import Derived.Lib.ConvBytes
import Derived.Laws.Slices
import Derived.WalkKit
import Derived.KernelRfl
import Derived.RowKit3
import Derived.Deep.LoopGhost
import Derived.Deep.QuietTactic
import Derived.BigQuiet
import Derived.WideLaws
import Derived.Deep.DeepCutAuto
import Derived.Deep.CutBlock
import Derived.Deep.RegionHeld3
import Derived.Laws.Rows
import Derived.Lib.AppendStr
import Derived.ArgAppend
import Derived.Laws.IdiomCopy
import Derived.OrdersHeld
import Derived.Laws.BitsLemmas
import Derived.RowKit
import Derived.RegionTactic
import Derived.ChangeAlike
import Derived.Outline
import Derived.LoopTactic
import Derived.WalkSpells
import Derived.WalkLawsBesides
import Derived.Lib.Hide
import Derived.StillTailTactics
import Derived.Deep.RegionWith
import Derived.Deep.RegionLaw
import Derived.Deep.DeepFit
import Derived.Deep.DeepMust
import Derived.Test.YtmofahlmcpeanaaWWords
import Derived.Test.YtmofahlmcpeanaaWLast
import Derived.Test.YtmofahlmcpeanaaWTab
import Derived.Test.YtmofahlmcpeanaaWFour
import Derived.Test.YtmofahlmcpeanaaWQPut
import Derived.Test.YtmofahlmcpeanaaWApart
import Derived.Test.YtmofahlmcpeanaaWArr
import Derived.Test.YtmofahlmcpeanaaWZeros
import Derived.Test.YtmofahlmcpeanaaWFoot
import Derived.Test.YtmofahlmcpeanaaWKept
import Derived.Test.YtmofahlmcpeanaaWShare
import Derived.Test.YtmofahlmcpeanaaWN
import Derived.Test.YtmofahlmcpeanaaWFootNe
import Derived.Test.YtmofahlmcpeanaaWAt
import Derived.Test.YtmofahlmcpeanaaWEqStruct
import Derived.Test.YtmofahlmcpeanaaWRepsOne
import Derived.Test.YtmofahlmcpeanaaWInv
import Derived.Test.YtmofahlmcpeanaaWInvWords
import Derived.Test.YtmofahlmcpeanaaWGuard
import Derived.Test.YtmofahlmcpeanaaWNEv
import Derived.Test.YtmofahlmcpeanaaWMore
import Derived.Test.YtmofahlmcpeanaaHs2
import Derived.Test.YtmofahlmcpeanaaRd
import Derived.Maps.AppendAt
namespace Go.Proofs.Ytmofahlmcpeanaa.Hs3
open Go.RowKit Go.Proofs.YtmofahlmcpeanaaW.PrintWords Go.Proofs.YtmofahlmcpeanaaW.PrintLast Go.Proofs.YtmofahlmcpeanaaW.PrintMore 
attribute [local go_sem] max2_int min2_int max_two min_two max_three min_three max_four min_four
set_option linter.unusedVariables false
set_option linter.unusedSimpArgs false
open Go.Joins Go.Proofs.Ytmofahlmcpeanaa.Hs1 Go.Proofs.Ytmofahlmcpeanaa.Hs2
attribute [local go_sem] cellS1 frozenS1 cellS2 frozenS2 cellS3 frozenS3 cellS4 frozenS4
def strV (b : List Int) : Value := .string (strOfNums b)
theorem info9 : (Try.prog.info? 9).map (fun i => (i.zero, i.size, i.bytes)) = some (some (.string ByteArray.empty), 1, 16) := by kernel_rfl
theorem grown_of_keep {z w w' : World} {g : Nat} (h : Below z.heap.size z w) (h' : Below z.heap.size z w') (k : KeepBut w w' g none) : w.grownBy w' (some g) :=
  ⟨h'.os.trans h.os.symm, h'.tape.trans h.tape.symm, h'.output.trans h.output.symm, k.1, fun i hi hs => k.2 i hi (fun e => hs (by rw [e])) (by simp)⟩
theorem ring_off {z w : World} {g a : Nat} {q : List (List Int)} {iv : Value} {lo : Int} {b n : Nat} {v : Value} {xs : List Value} (h : RingIs z w g a q iv lo) (ho : w.ownsRow b 9 1 v n xs) : v.ownBlock ≠ some g := by
  obtain ⟨vs, hI, _⟩ := h
  exact own_off ho hI.1 (by decide)
theorem str_at {w : World} {b : Nat} {A : Option Addr} {c : Nat} {L : List (List Int)} (h : w.ownsRow b 9 1 (.slice A L.length c) L.length (L.map strV)) (k : Nat) (hk : k < L.length) : ∃ ad, A = some ad ∧ w.cell? (ad.add k) = some (.string (strOfNums (L.getD k []))) := by
  obtain ⟨g, cap, e⟩ := Go.Joins.ownsRow_form h (by omega)
  cases e
  refine ⟨_, rfl, h.cells (g := g) rfl k _ ?_⟩
  rw [List.getElem?_map, List.getElem?_eq_getElem hk, List.getD_eq_getElem?_getD, List.getElem?_eq_getElem hk]; rfl
theorem ring_le {z w : World} {g a : Nat} {q : List (List Int)} {iv : Value} {lo : Int} (h : RingIs z w g a q iv lo) : q.length ≤ 16 := by
  obtain ⟨vs, _, _, h16, _⟩ := h
  exact h16
theorem row_apart {w : World} {b n : Nat} {v : Value} {xs : List Value} (h : w.ownsRow b 9 1 v n xs) (j : Nat) (hj : v.ownBlock = some j) : ∀ cs fr, w.heap[j]? ≠ some (.cells cs 5 fr) := by
  intro cs fr e
  exact own_off h e (by decide) hj
theorem bools_at {W : World} {A : Option Addr} {l : List Bool} (h : Rd.BoolsAt W A l) (i : Nat) (h1 : i < l.length) : ∃ a b, A = some a ∧ W.cell? (a.add i) = some (.bool b) := by
  obtain ⟨a, e, hc⟩ := h i h1
  exact ⟨a, _, e, hc⟩
theorem C_below {w W : World} {A : Option Addr} {b : List Int} (h : Kd.C (Kd.int .u8) w A b.length b) (hb : Below w.heap.size w W) : Kd.C (Kd.int .u8) W A b.length b := by
  have hr : ReadsInt w .u8 A b.length b := Kd.reads_of_C (enc := Value.int .u8) (d := (0 : Int)) (h1 := fun _ => rfl) h
  refine Kd.C_of_reads (d := (0 : Int)) (h1 := fun _ => rfl) ⟨hr.1, hr.2.1, fun hp => ?_⟩
  obtain ⟨ad, e, hc⟩ := hr.2.2 hp
  exact ⟨ad, e, fun j hj => (hb.cell (World.block_lt_of_cell? w _ (hc j hj))).trans (hc j hj)⟩
set_option maxRecDepth 100000 in
set_option maxHeartbeats 16000000 in
theorem order_any (A0 A1 : Option Addr) (n0 c0 c1 : Nat) (sf : Nat → Option Addr) (cp : Nat → Nat) (bf : Nat → List Int) (l1 : List Bool) (w : World) (hr0 : Rd.BytesAt w A0 n0 sf cp bf) (hr1 : Rd.BoolsAt w A1 l1) (hm0 : n0 ≤ maxLen) (hm1 : l1.length ≤ maxLen) :
    Calls Try.prog 3 #[.slice A0 n0 c0, .slice A1 l1.length c1] w fun en w' => en = .returned (.bool true) ∧ Below w.heap.size w w' := by
  obtain ⟨i9, hi, hz0, hz1, hz2⟩ := info_parts info9
  have HR0 := Aside0.mk hr0
  have HR1 := Aside0.mk hr1
  unfold maxLen at hm0 hm1
  clear hr0 hr1
  have HOLD : Aside0 (∀ W, Below w.heap.size w W → ∀ (a : Addr) (v : Value), w.cell? a = some v → W.cell? a = some v) := ⟨fun W hB a v h => (hB.cell (World.block_lt_of_cell? w _ h)).trans h⟩
  go_enter Try.func3, Try.ntmps3
  go_wp2_with (first | (go_at_call 6; go_loud (refine (new_ring _).mono ?_; rintro en w1 ⟨g, rfl, a1, a2⟩; have J1 := Aside0.mk a1; have B1 := Aside0.mk a2; clear a1 a2)))
  go_loopw [6, 7, 8] (fun vw va vi wr => ∃ (k at_ : Nat) (Ws : List (List Int)) (Aw : Option Addr) (cw a : Nat) (q : List (List Int)), vi = .int .i64 k ∧ va = .int .i64 at_ ∧ vw = .slice Aw Ws.length cw ∧ k ≤ 200 ∧ Ws.length ≤ k ∧ at_ + q.length = Ws.length ∧ Aside0 (∀ j, j < q.length → q.getD j [] = Ws.getD (at_ + j) []) ∧ Aside0 (wr.ownsRow w.heap.size 9 1 (.slice Aw Ws.length cw) Ws.length (Ws.map strV)) ∧ Aside0 (RingIs w wr g a q (.slice none 0 0) 0) ∧ Aside0 (Below w.heap.size w wr)) (fun _ _ vi _ => 200 - (intOf vi).toNat)
  case atStart => exact ⟨0, 0, [], none, 0, 0, [], rfl, rfl, rfl, by omega, by simp, by simp, ⟨fun j hj => absurd hj (Nat.not_lt_zero _)⟩, ⟨World.ownsRow_nil _ _ _ _⟩, J1, B1⟩
  case round =>
    obtain ⟨k, at_, Ws, Aw, cw, a, q, rfl, rfl, rfl, hk9, hWk, hq, HQD, O5, J5, B5⟩ := hrel
    clear J1 B1
    have hv : IntKind.i64.wrap ((Ws.length : Int) - (at_ : Int)) = (q.length : Int) := by rw [IntKind.wrap_i64]; omega
    have hqe : (Ws.length : Int) - (at_ : Int) = (q.length : Int) := by omega
    by_cases c5 : k < n0
    · have c5b : decide ((k : Int) < (n0 : Int)) = true := decide_eq_true (by omega)
      by_cases c6 : k < l1.length
      · have c6b : decide ((k : Int) < (l1.length : Int)) = true := decide_eq_true (by omega)
        by_cases c8 : k < 200
        · have c8b : decide ((k : Int) < 200) = true := decide_eq_true (by omega)
          obtain ⟨⟨ad0, e0, hx0⟩, hC, hcp, hbm, hbw⟩ := HR0.out k c5
          subst e0
          obtain ⟨ad1, bb, e1, hx1⟩ := bools_at HR1.out k c6
          subst e1
          have X0 := Aside0.mk hx0
          have X1 := Aside0.mk hx1
          replace hx0 := HOLD.out _ B5.out _ _ hx0
          replace hx1 := HOLD.out _ B5.out _ _ hx1
          unfold maxLen at hbm
          have HC := Aside0.mk (C_below hC B5.out)
          have HCB := Aside0.mk hC
          clear hC hbw
          have kz0 : (0 : Int) ≤ (k : Int) := by omega
          have kz1 : (k : Int) < (n0 : Int) := by omega
          have kz2 : (k : Int) < (l1.length : Int) := by omega
          by_cases hbl : (bf k).length ≤ 16
          · have hblb : decide (((bf k).length : Int) ≤ 16) = true := decide_eq_true (by omega)
            by_cases hqf : q.length < 16
            · have hqb : decide ((q.length : Int) < 16) = true := decide_eq_true (by omega)
              have hqb2 : decide ((Ws.length : Int) - (at_ : Int) < 16) = true := decide_eq_true (by omega)
              have HQ3 : Aside0 (∀ j, j < (q ++ [bf k]).length → (q ++ [bf k]).getD j [] = (Ws ++ [bf k]).getD (at_ + j) []) := ⟨fun j hj => by
                rw [List.length_append] at hj
                replace hj : j < q.length + 1 := hj
                by_cases hjq : j < q.length
                · rw [List.getD_eq_getElem?_getD, List.getElem?_append_left hjq, List.getD_eq_getElem?_getD, List.getElem?_append_left (by omega)]
                  have := HQD.out j hjq
                  rw [List.getD_eq_getElem?_getD, List.getD_eq_getElem?_getD] at this
                  exact this
                · obtain rfl : j = q.length := by omega
                  rw [List.getD_eq_getElem?_getD, List.getElem?_append_right (Nat.le_refl _), List.getD_eq_getElem?_getD, List.getElem?_append_right (by omega), show at_ + q.length - Ws.length = 0 by omega, Nat.sub_self]⟩
              go_upto_region 14 with (first | (go_at_call 7; go_loud (refine (submit_ok g a q (.slice none 0 0) 0 w _ J5.out B5.out (sf k) (cp k) (bf k) HC.out hbl hqf).mono ?_; rintro en w6 ⟨rfl, a1, a2, a3⟩; have gg := grown_of_keep B5.out a2 a3; have O6 : Aside0 (w6.ownsRow w.heap.size 9 1 (.slice Aw Ws.length cw) Ws.length (Ws.map strV)) := ⟨O5.out.kept gg (Or.inr (ring_off J5.out O5.out))⟩; have J6 := Aside0.mk a1; have B6 := Aside0.mk a2; have hown := O6.out; have hcv : (convert 29 9 (.slice (sf k) (bf k).length (cp k))).run Try.prog w6 = .ok (.string (strOfNums (bf k))) w6 := Kd.C_string Try.underlying29 Try.underlying5 Try.underlying9 (C_below HCB.out a2); have x0_w6 : w6.cell? (ad0.add k) = some (.slice (sf k) (bf k).length (cp k)) := HOLD.out _ a2 _ _ X0.out; have x1_w6 : w6.cell? (ad1.add k) = some (.bool bb) := HOLD.out _ a2 _ _ X1.out; clear a1 a2 a3 gg)) | (at_builtin; go_loud (refine wpList_append_own _ rfl _ _ 26 rfl w.heap.size 9 i9 (.string ByteArray.empty) 1 16 Try.underlying26 hi hz0 hz1 hz2 rfl (by decide) _ _ _ rfl (hown.alloc _) ⟨w6.heap.size, 0, none⟩ 1 1 [.string (strOfNums (bf k))] rfl rfl (cell_one_new _ _ _) (by simp [Value.oneCell']) (by unfold maxLen; omega) (by omega) (by have := B6.out.size; simp; omega) ?_; intro v' w9 hown' hgrow _; obtain ⟨Ap, cq, rfl⟩ := own_slice hown'; have hall := (World.grownBy_alloc w6 (.cells #[.string (strOfNums (bf k))] 9) (Value.slice Aw Ws.length cw).ownBlock).trans hgrow; have J9 : Aside0 (RingIs w w9 g a (q ++ [bf k]) (.slice none 0 0) 0) := ⟨J6.out.kept hall (fun j hj => ⟨fun e => ring_off J6.out O6.out (by rw [hj, e]), row_apart O6.out j hj⟩)⟩; have B9 : Aside0 (Below w.heap.size w w9) := ⟨B6.out.grown hall B6.out.size (fun j hj => (O6.out.lt j hj).1)⟩; have O9 : Aside0 (w9.ownsRow w.heap.size 9 1 (.slice Ap (Ws ++ [bf k]).length cq) (Ws ++ [bf k]).length ((Ws ++ [bf k]).map strV)) := ⟨by rw [List.length_append, List.map_append]; exact hown'⟩; have x0_w9 : w9.cell? (ad0.add k) = some (.slice (sf k) (bf k).length (cp k)) := HOLD.out _ B9.out _ _ X0.out; have x1_w9 : w9.cell? (ad1.add k) = some (.bool bb) := HOLD.out _ B9.out _ _ X1.out; clear hown hown' hgrow hall)))
              have hwl : (Ws ++ [bf k]).length = Ws.length + 1 := by simp
              have hql9 : (q ++ [bf k]).length = q.length + 1 := by simp
              obtain ⟨Wn, hWn⟩ : ∃ Wn, Ws ++ [bf k] = Wn := ⟨_, rfl⟩
              obtain ⟨qn, hqn⟩ : ∃ qn, q ++ [bf k] = qn := ⟨_, rfl⟩
              rw [hWn] at hwl O9 HQ3
              rw [hqn] at hql9 J9 HQ3
              have hwi : (Ws.length : Int) + 1 = (Wn.length : Int) := by omega
              have HQD := HQ3
              rw [← hwl]
              clear hWn hqn HQ3 O5 J5 O6 J6 B6 x0_w6 x1_w6 hqe hv hx0 hx1
              cases bb with
              | false =>
                go_wp2
                go_roundw
                case rel => exact ⟨k + 1, at_, Wn, Ap, cq, a, qn, by go_num, rfl, rfl, by omega, by omega, by omega, HQD, O9, J9, B9⟩
                case measure => simp [intOf]; omega
              | true =>
                obtain ⟨qq, hqq⟩ : ∃ qq, qn = qq := ⟨_, rfl⟩
                rw [hqq] at J9 HQD
                have hql : qq.length = (qn : List (List Int)).length := by rw [hqq]
                clear hqq
                cases qq with
                | nil =>
                  have hae : at_ = Wn.length := by simp at hql; omega
                  have hlt : decide ((at_ : Int) < (Wn.length : Int)) = false := decide_eq_false (by omega)
                  have hnl : ¬ at_ < Wn.length := by omega
                  have HAE := Aside0.mk hae
                  clear hae hql
                  have HWL := Aside0.mk hwl; clear hwl
                  go_upto_region 16 with (first | (go_at_call 8; go_loud (refine (next_empty g a (.slice none 0 0) 0 w _ J9.out B9.out).mono ?_; rintro en w7 ⟨rfl, e7⟩; rw [e7]; clear e7)))
                  refine wp_region_quiet_lit (by kernel_rfl) (by kernel_rfl) ?_
                  repeat (first | go_big_quiet_step (fail) | quiet_step (fail))
                  refine wpQuiet_nil ?_
                  intro _ hw'
                  obtain ⟨nq, hw''⟩ := hw'
                  subst hw''
                  go_wp2
                  go_roundw
                  all_goals have hwl := HWL.out
                  case rel => exact ⟨k + 1, at_, Wn, Ap, cq, a, [], by go_num, rfl, rfl, by omega, by omega, by have := HAE.out; simp; omega, HQD, ⟨pw_own_drewN O9.out _⟩, ⟨RingIs.drewN J9.out _⟩, ⟨pw_below_drewN B9.out _⟩⟩
                  case measure => simp [intOf]; omega
                | cons b0 q2 =>
                  have hal : at_ < Wn.length := by simp at hql; omega
                  have hlt : decide ((at_ : Int) < (Wn.length : Int)) = true := decide_eq_true (by omega)
                  have hb0 : Wn.getD at_ [] = b0 := by have := HQD.out 0 (by simp); simpa using this.symm
                  have HQ2 : Aside0 (∀ j, j < q2.length → q2.getD j [] = Wn.getD (at_ + 1 + j) []) := ⟨fun j hj => by have := HQD.out (j + 1) (by simp; omega); rw [show at_ + 1 + j = at_ + (j + 1) by omega]; simpa using this⟩
                  have HB0 := Aside0.mk hb0
                  have hq2 : q2.length + 1 = (qn : List (List Int)).length := by simpa using hql
                  clear hb0
                  have HWL := Aside0.mk hwl; clear hwl
                  go_upto_region 16 with (first | (go_at_call 8; go_loud (refine (next_some g a b0 q2 (.slice none 0 0) 0 w _ J9.out B9.out).mono ?_; rintro en w7 ⟨Ax, cx, rfl, a1, a2, a3, a4⟩; have gg := grown_of_keep B9.out a3 a4; have O7 : Aside0 (w7.ownsRow w.heap.size 9 1 (.slice Ap Wn.length cq) Wn.length (Wn.map strV)) := ⟨O9.out.kept gg (Or.inr (ring_off J9.out O9.out))⟩; have J7 := Aside0.mk a2; have B7 := Aside0.mk a3; have E7 := Aside0.mk a1; clear a1 a2 a3 a4 gg)))
                  have hcv : ∀ m, (convert 29 9 (.slice Ax b0.length cx)).run Try.prog (w7.drewN m) = .ok (.string (strOfNums b0)) (w7.drewN m) := fun m => own_string Try.underlying29 Try.underlying5 Try.underlying9 (pw_own_drewN E7.out m)
                  obtain ⟨adw, ew, hxw⟩ := str_at O7.out at_ hal
                  subst ew
                  rw [HB0.out] at hxw
                  have hz0 : (0 : Int) ≤ (at_ : Int) := by omega
                  have hz1 : (at_ : Int) < (Wn.length : Int) := by omega
                  refine wp_region_quiet_lit (by kernel_rfl) (by kernel_rfl) ?_
                  repeat (first | go_big_quiet_step (fail) | quiet_step (fail))
                  refine wpQuiet_nil ?_
                  intro _ hw'
                  obtain ⟨nq, hw''⟩ := hw'
                  subst hw''
                  go_wp2
                  go_roundw
                  all_goals have hwl := HWL.out
                  case rel => exact ⟨k + 1, at_ + 1, Wn, some adw, cq, _, q2, by go_num, by go_num, rfl, by omega, by omega, by omega, HQ2, ⟨pw_own_drewN O7.out _⟩, ⟨RingIs.drewN J7.out _⟩, ⟨pw_below_drewN B7.out _⟩⟩
                  case measure => simp [intOf]; omega
            · have hqf2 : q.length = 16 := by have := ring_le J5.out; omega
              have hqb : decide ((q.length : Int) < 16) = false := decide_eq_false (by omega)
              have hqb2 : decide ((Ws.length : Int) - (at_ : Int) < 16) = false := decide_eq_false (by omega)
              have HQF := Aside0.mk hqf2
              clear hqf2
              go_upto_region 14 with (first | (go_at_call 7; go_loud (refine (submit_full g a q (.slice none 0 0) 0 w _ J5.out B5.out (sf k) (bf k).length (cp k) hbl HQF.out).mono ?_; rintro en w7 ⟨rfl, e7⟩; rw [e7]; clear e7)))
              cases bb with
              | false =>
                go_wp2
                go_roundw
                case rel => exact ⟨k + 1, at_, Ws, Aw, cw, a, q, by go_num, rfl, rfl, by omega, by omega, by omega, HQD, O5, J5, B5⟩
                case measure => simp [intOf]; omega
              | true =>
                obtain ⟨qq, hqq⟩ : ∃ qq, q = qq := ⟨_, rfl⟩
                rw [hqq] at J5 HQD
                have hql : qq.length = (q : List (List Int)).length := by rw [hqq]
                clear hqq
                cases qq with
                | nil =>
                  have hae : at_ = Ws.length := by simp at hql; omega
                  have hlt : decide ((at_ : Int) < (Ws.length : Int)) = false := decide_eq_false (by omega)
                  have hnl : ¬ at_ < Ws.length := by omega
                  have HAE := Aside0.mk hae
                  clear hae hql
                  skip
                  go_upto_region 16 with (first | (go_at_call 8; go_loud (refine (next_empty g a (.slice none 0 0) 0 w _ J5.out B5.out).mono ?_; rintro en w7 ⟨rfl, e7⟩; rw [e7]; clear e7)))
                  refine wp_region_quiet_lit (by kernel_rfl) (by kernel_rfl) ?_
                  repeat (first | go_big_quiet_step (fail) | quiet_step (fail))
                  refine wpQuiet_nil ?_
                  intro _ hw'
                  obtain ⟨nq, hw''⟩ := hw'
                  subst hw''
                  go_wp2
                  go_roundw
                  skip
                  case rel => exact ⟨k + 1, at_, Ws, Aw, cw, a, [], by go_num, rfl, rfl, by omega, by omega, by have := HAE.out; simp; omega, HQD, ⟨pw_own_drewN O5.out _⟩, ⟨RingIs.drewN J5.out _⟩, ⟨pw_below_drewN B5.out _⟩⟩
                  case measure => simp [intOf]; omega
                | cons b0 q2 =>
                  have hal : at_ < Ws.length := by simp at hql; omega
                  have hlt : decide ((at_ : Int) < (Ws.length : Int)) = true := decide_eq_true (by omega)
                  have hb0 : Ws.getD at_ [] = b0 := by have := HQD.out 0 (by simp); simpa using this.symm
                  have HQ2 : Aside0 (∀ j, j < q2.length → q2.getD j [] = Ws.getD (at_ + 1 + j) []) := ⟨fun j hj => by have := HQD.out (j + 1) (by simp; omega); rw [show at_ + 1 + j = at_ + (j + 1) by omega]; simpa using this⟩
                  have HB0 := Aside0.mk hb0
                  have hq2 : q2.length + 1 = (q : List (List Int)).length := by simpa using hql
                  clear hb0
                  skip
                  go_upto_region 16 with (first | (go_at_call 8; go_loud (refine (next_some g a b0 q2 (.slice none 0 0) 0 w _ J5.out B5.out).mono ?_; rintro en w7 ⟨Ax, cx, rfl, a1, a2, a3, a4⟩; have gg := grown_of_keep B5.out a3 a4; have O7 : Aside0 (w7.ownsRow w.heap.size 9 1 (.slice Aw Ws.length cw) Ws.length (Ws.map strV)) := ⟨O5.out.kept gg (Or.inr (ring_off J5.out O5.out))⟩; have J7 := Aside0.mk a2; have B7 := Aside0.mk a3; have E7 := Aside0.mk a1; clear a1 a2 a3 a4 gg)))
                  have hcv : ∀ m, (convert 29 9 (.slice Ax b0.length cx)).run Try.prog (w7.drewN m) = .ok (.string (strOfNums b0)) (w7.drewN m) := fun m => own_string Try.underlying29 Try.underlying5 Try.underlying9 (pw_own_drewN E7.out m)
                  obtain ⟨adw, ew, hxw⟩ := str_at O7.out at_ hal
                  subst ew
                  rw [HB0.out] at hxw
                  have hz0 : (0 : Int) ≤ (at_ : Int) := by omega
                  have hz1 : (at_ : Int) < (Ws.length : Int) := by omega
                  refine wp_region_quiet_lit (by kernel_rfl) (by kernel_rfl) ?_
                  repeat (first | go_big_quiet_step (fail) | quiet_step (fail))
                  refine wpQuiet_nil ?_
                  intro _ hw'
                  obtain ⟨nq, hw''⟩ := hw'
                  subst hw''
                  go_wp2
                  go_roundw
                  skip
                  case rel => exact ⟨k + 1, at_ + 1, Ws, some adw, cw, _, q2, by go_num, by go_num, rfl, by omega, by omega, by omega, HQ2, ⟨pw_own_drewN O7.out _⟩, ⟨RingIs.drewN J7.out _⟩, ⟨pw_below_drewN B7.out _⟩⟩
                  case measure => simp [intOf]; omega
          · have hblb : decide (((bf k).length : Int) ≤ 16) = false := decide_eq_false (by omega)
            go_upto_region 14 with (first | (go_at_call 7; go_loud (refine (submit_long g a q (.slice none 0 0) 0 w _ J5.out B5.out (sf k) (bf k).length (cp k) (by omega) hbm).mono ?_; rintro en w7 ⟨rfl, e7⟩; rw [e7]; clear e7)))
            cases bb with
            | false =>
              go_wp2
              go_roundw
              case rel => exact ⟨k + 1, at_, Ws, Aw, cw, a, q, by go_num, rfl, rfl, by omega, by omega, by omega, HQD, O5, J5, B5⟩
              case measure => simp [intOf]; omega
            | true =>
              obtain ⟨qq, hqq⟩ : ∃ qq, q = qq := ⟨_, rfl⟩
              rw [hqq] at J5 HQD
              have hql : qq.length = (q : List (List Int)).length := by rw [hqq]
              clear hqq
              cases qq with
              | nil =>
                have hae : at_ = Ws.length := by simp at hql; omega
                have hlt : decide ((at_ : Int) < (Ws.length : Int)) = false := decide_eq_false (by omega)
                have hnl : ¬ at_ < Ws.length := by omega
                have HAE := Aside0.mk hae
                clear hae hql
                skip
                go_upto_region 16 with (first | (go_at_call 8; go_loud (refine (next_empty g a (.slice none 0 0) 0 w _ J5.out B5.out).mono ?_; rintro en w7 ⟨rfl, e7⟩; rw [e7]; clear e7)))
                refine wp_region_quiet_lit (by kernel_rfl) (by kernel_rfl) ?_
                repeat (first | go_big_quiet_step (fail) | quiet_step (fail))
                refine wpQuiet_nil ?_
                intro _ hw'
                obtain ⟨nq, hw''⟩ := hw'
                subst hw''
                go_wp2
                go_roundw
                skip
                case rel => exact ⟨k + 1, at_, Ws, Aw, cw, a, [], by go_num, rfl, rfl, by omega, by omega, by have := HAE.out; simp; omega, HQD, ⟨pw_own_drewN O5.out _⟩, ⟨RingIs.drewN J5.out _⟩, ⟨pw_below_drewN B5.out _⟩⟩
                case measure => simp [intOf]; omega
              | cons b0 q2 =>
                have hal : at_ < Ws.length := by simp at hql; omega
                have hlt : decide ((at_ : Int) < (Ws.length : Int)) = true := decide_eq_true (by omega)
                have hb0 : Ws.getD at_ [] = b0 := by have := HQD.out 0 (by simp); simpa using this.symm
                have HQ2 : Aside0 (∀ j, j < q2.length → q2.getD j [] = Ws.getD (at_ + 1 + j) []) := ⟨fun j hj => by have := HQD.out (j + 1) (by simp; omega); rw [show at_ + 1 + j = at_ + (j + 1) by omega]; simpa using this⟩
                have HB0 := Aside0.mk hb0
                have hq2 : q2.length + 1 = (q : List (List Int)).length := by simpa using hql
                clear hb0
                skip
                go_upto_region 16 with (first | (go_at_call 8; go_loud (refine (next_some g a b0 q2 (.slice none 0 0) 0 w _ J5.out B5.out).mono ?_; rintro en w7 ⟨Ax, cx, rfl, a1, a2, a3, a4⟩; have gg := grown_of_keep B5.out a3 a4; have O7 : Aside0 (w7.ownsRow w.heap.size 9 1 (.slice Aw Ws.length cw) Ws.length (Ws.map strV)) := ⟨O5.out.kept gg (Or.inr (ring_off J5.out O5.out))⟩; have J7 := Aside0.mk a2; have B7 := Aside0.mk a3; have E7 := Aside0.mk a1; clear a1 a2 a3 a4 gg)))
                have hcv : ∀ m, (convert 29 9 (.slice Ax b0.length cx)).run Try.prog (w7.drewN m) = .ok (.string (strOfNums b0)) (w7.drewN m) := fun m => own_string Try.underlying29 Try.underlying5 Try.underlying9 (pw_own_drewN E7.out m)
                obtain ⟨adw, ew, hxw⟩ := str_at O7.out at_ hal
                subst ew
                rw [HB0.out] at hxw
                have hz0 : (0 : Int) ≤ (at_ : Int) := by omega
                have hz1 : (at_ : Int) < (Ws.length : Int) := by omega
                refine wp_region_quiet_lit (by kernel_rfl) (by kernel_rfl) ?_
                repeat (first | go_big_quiet_step (fail) | quiet_step (fail))
                refine wpQuiet_nil ?_
                intro _ hw'
                obtain ⟨nq, hw''⟩ := hw'
                subst hw''
                go_wp2
                go_roundw
                skip
                case rel => exact ⟨k + 1, at_ + 1, Ws, some adw, cw, _, q2, by go_num, by go_num, rfl, by omega, by omega, by omega, HQ2, ⟨pw_own_drewN O7.out _⟩, ⟨RingIs.drewN J7.out _⟩, ⟨pw_below_drewN B7.out _⟩⟩
                case measure => simp [intOf]; omega
        · have c8b : decide ((k : Int) < 200) = false := decide_eq_false (by omega)
          go_wp2_with (first | (go_at_call 9; go_loud (refine (ring_waiting g a q (.slice none 0 0) 0 w _ J5.out B5.out).mono ?_; rintro en w7 ⟨rfl, e7⟩; rw [e7]; clear e7)) | (go_at_call 10; go_loud (refine (awake_ok _).mono ?_; rintro en w8 ⟨rfl, hb2⟩; have HB2 := Aside0.mk (below_step B5.out hb2); clear hb2)))
          go_ret
          exact ⟨rfl, HB2.out⟩
      · have c6b : decide ((k : Int) < (l1.length : Int)) = false := decide_eq_false (by omega)
        go_wp2_with (first | (go_at_call 9; go_loud (refine (ring_waiting g a q (.slice none 0 0) 0 w _ J5.out B5.out).mono ?_; rintro en w7 ⟨rfl, e7⟩; rw [e7]; clear e7)) | (go_at_call 10; go_loud (refine (awake_ok _).mono ?_; rintro en w8 ⟨rfl, hb2⟩; have HB2 := Aside0.mk (below_step B5.out hb2); clear hb2)))
        go_ret
        exact ⟨rfl, HB2.out⟩
    · have c5b : decide ((k : Int) < (n0 : Int)) = false := decide_eq_false (by omega)
      go_wp2_with (first | (go_at_call 9; go_loud (refine (ring_waiting g a q (.slice none 0 0) 0 w _ J5.out B5.out).mono ?_; rintro en w7 ⟨rfl, e7⟩; rw [e7]; clear e7)) | (go_at_call 10; go_loud (refine (awake_ok _).mono ?_; rintro en w8 ⟨rfl, hb2⟩; have HB2 := Aside0.mk (below_step B5.out hb2); clear hb2)))
      go_ret
      exact ⟨rfl, HB2.out⟩
end Go.Proofs.Ytmofahlmcpeanaa.Hs3
