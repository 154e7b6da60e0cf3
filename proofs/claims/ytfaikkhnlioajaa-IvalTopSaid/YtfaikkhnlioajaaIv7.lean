/- Nobody has more: the law. -/
import Derived.Test.YtfaikkhnlioajaaProg
import Derived.Below
import Derived.Deep.Draws
import Derived.Deep.AppendLies
import Derived.Maps.AppendAt
import Derived.OwnWalk
import Derived.Laws.BytesArg
import Derived.Laws.MakeOwn
import Derived.Laws.OwnMore
import Derived.Deep.OwnRows
import Derived.Tactics
import Derived.Lib.ConvBytes
import Derived.Laws.Slices
import Derived.WalkKit
import Derived.KernelRfl
import Derived.RowKit3
import Derived.Deep.LoopGhost
import Derived.Deep.QuietTactic
import Derived.BigQuiet
import Derived.WideLaws
import Derived.Deep.DeepCutAuto
import Derived.Deep.CutBlock
import Derived.Deep.RegionHeld3
import Derived.Laws.Rows
import Derived.Lib.AppendStr
import Derived.ArgAppend
import Derived.Laws.IdiomCopy
import Derived.OrdersHeld
import Derived.Laws.BitsLemmas
import Derived.RowKit
import Derived.RegionTactic
import Derived.ChangeAlike
import Derived.Outline
import Derived.LoopTactic
import Derived.WalkSpells
import Derived.WalkLawsBesides
import Derived.Lib.Hide
import Derived.StillTailTactics
import Derived.Deep.RegionWith
import Derived.Deep.RegionLaw
import Derived.Deep.DeepFit
import Derived.Deep.DeepMust
import Derived.Test.YtfaikkhnlioajaaWWords
import Derived.Test.YtfaikkhnlioajaaWLast
import Derived.Test.YtfaikkhnlioajaaWTab
import Derived.Test.YtfaikkhnlioajaaWFour
import Derived.Test.YtfaikkhnlioajaaWQPut
import Derived.Test.YtfaikkhnlioajaaWApart
import Derived.Test.YtfaikkhnlioajaaWArr
import Derived.Test.YtfaikkhnlioajaaWZeros
import Derived.Test.YtfaikkhnlioajaaWFoot
import Derived.Test.YtfaikkhnlioajaaWKept
import Derived.Test.YtfaikkhnlioajaaWShare
import Derived.Test.YtfaikkhnlioajaaWN
import Derived.Test.YtfaikkhnlioajaaWFootNe
import Derived.Test.YtfaikkhnlioajaaWAt
import Derived.Test.YtfaikkhnlioajaaWEqStruct
import Derived.Test.YtfaikkhnlioajaaWRepsOne
import Derived.Test.YtfaikkhnlioajaaWInv
import Derived.Test.YtfaikkhnlioajaaWInvWords
import Derived.Test.YtfaikkhnlioajaaWGuard
import Derived.Test.YtfaikkhnlioajaaWNEv
import Derived.Test.YtfaikkhnlioajaaWMore
import Derived.Test.YtfaikkhnlioajaaIv6
namespace Go.Proofs.Ytfaikkhnlioajaa.Iv7
open Go.RowKit Go.Proofs.YtfaikkhnlioajaaW.PrintWords Go.Proofs.YtfaikkhnlioajaaW.PrintLast Go.Proofs.YtfaikkhnlioajaaW.PrintMore 
attribute [local go_sem] max2_int min2_int max_two min_two max_three min_three max_four min_four
set_option linter.unusedVariables false
set_option linter.unusedSimpArgs false
open Go.Proofs.Ytfaikkhnlioajaa.QBase Go.Proofs.Ytfaikkhnlioajaa.Iv2 Go.Proofs.Ytfaikkhnlioajaa.Iv3 Go.Proofs.Ytfaikkhnlioajaa.Iv4 Go.Proofs.Ytfaikkhnlioajaa.Iv5 Go.Proofs.Ytfaikkhnlioajaa.Iv6
attribute [local go_sem] cellS1 frozenS1 cellS2 frozenS2 cellS3 frozenS3

theorem cnt_take (L : List S61) (i : Nat) (h : i < L.length) (v : Int) : cnt ((L.take (i + 1)).map pr) v = cnt ((L.take i).map pr) v + (if hold (pr L[i]) v = true then 1 else 0) := by
  rw [List.take_succ_eq_append_getElem h, List.map_append]
  unfold cnt
  rw [List.filter_append, List.length_append]
  simp only [List.map_cons, List.map_nil, List.filter_cons, List.filter_nil]
  split <;> simp
def some_ (L : List (Int × Int)) : Bool := L.any rt
theorem some_take (L : List S61) (i : Nat) (h : i < L.length) : some_ ((L.take (i + 1)).map pr) = (some_ ((L.take i).map pr) || rt (pr L[i])) := by
  rw [List.take_succ_eq_append_getElem h, List.map_append]
  unfold some_
  rw [List.any_append]
  simp
/-- What the law compares. -/
theorem top_plain (L : List (Int × Int)) (lo hi m v : Int) (h : Iv2.Spec L lo hi m) (hm : ∀ v, cnt L v ≤ m) : (some_ L = decide (m > 0)) ∧ cnt L v ≤ m ∧ (some_ L = true → cnt L lo = m) := by
  refine ⟨?_, hm v, ?_⟩
  · rcases h with ⟨_, _, h3, h4⟩ | ⟨h1, _, ⟨x, hx, hr, _⟩, _⟩
    · rw [decide_eq_false (by omega)]
      unfold some_
      rw [List.any_eq_false]
      intro x hx
      rw [h4 x hx]; decide
    · rw [decide_eq_true h1]
      exact List.any_eq_true.mpr ⟨x, hx, hr⟩
  · intro hs
    obtain ⟨x, hx, hr⟩ := List.any_eq_true.mp hs
    rcases h with ⟨_, _, _, h4⟩ | ⟨_, h2, _⟩
    · rw [h4 x hx] at hr; exact absurd hr (by decide)
    · exact h2.symm
theorem cell_below {w w' : World} (hb : Below w.heap.size w w') {a : Addr} {v : Value} (h : w.cell? a = some v) : w'.cell? a = some v := (hb.cell (World.block_lt_of_cell? w _ h)).trans h
theorem cell_below' {w w' : World} (hb : Below w.heap.size w w') {a : Addr} {v : Value} (h : w.cell? a = some v) : w'.cell? a = some v := cell_below hb h
theorem holds_ok (a b v : Int) (W : World) : Calls Try.prog 28 #[.agg #[.int .i64 a, .int .i64 b], .int .i64 v] W fun e w' => e = .returned (.bool (hold (a, b) v)) ∧ Below W.heap.size W w' := ival_Holds.calls a b v _ W (iholds_eq a b v)
set_option maxRecDepth 100000 in
set_option maxHeartbeats 8000000 in
theorem top_any (w : World) (A : Option Addr) (c : Nat) (l : List S61) (v : Int) (hr : Kd.C k61 w A l.length l) (hc : l.length ≤ c) (hm : l.length ≤ maxLen) :
    Calls Try.prog 10 #[.slice A l.length c, .int .i64 v] w fun en w' => en = .returned (.bool true) ∧ Below w.heap.size w w' := by
  unfold maxLen at hm
  by_cases hn : l.length ≤ 200
  · have hnb : decide ((l.length : Int) > 200) = false := decide_eq_false (by omega)
    have h1 := most_ok w A c l hr (by omega)
    obtain ⟨hsp, hmx⟩ := sweep_spec (l.map pr) (sorted (l.map pr)) (sorted_perm _) (sorted_pair _)
    have htop := top_plain _ _ _ _ v hsp hmx
    obtain ⟨lo, hlo⟩ : ∃ x, (sweep (sorted (l.map pr))).lo = x := ⟨_, rfl⟩
    obtain ⟨hi, hhi⟩ : ∃ x, (sweep (sorted (l.map pr))).hi = x := ⟨_, rfl⟩
    obtain ⟨mn, hmn⟩ : ∃ x, (sweep (sorted (l.map pr))).many = x := ⟨_, rfl⟩
    rw [hlo, hhi, hmn] at h1
    rw [hlo, hmn] at htop
    have HT := Aside0.mk htop
    clear hlo hhi hmn hsp hmx htop
    have HR := Aside0.mk hr
    clear hr
    go_enter Try.func10, Try.ntmps10
    go_upto_region 7 with (first | (go_at_call 43; go_loud (refine h1.mono ?_; rintro e w1 ⟨rfl, hb⟩; have B1 := Aside0.mk hb; clear hb)))
    have K1 : Aside0 ((w1.alloc (.cells #[.int .i64 lo, .int .i64 hi] 61)).heap[w1.heap.size]? = some (.cells #[.int .i64 lo, .int .i64 hi] 61 (0, 0))) := ⟨blk_new w1 _⟩
    clear h1
    obtain ⟨g5, hg5⟩ : ∃ g, w1.heap.size = g := ⟨_, rfl⟩
    rw [hg5] at K1 ⊢
    refine wp_gen (fun W => Below w.heap.size w W ∧ W.heap[g5]? = some (.cells #[.int .i64 lo, .int .i64 hi] 61 (0, 0))) ⟨below_alloc B1.out _, K1.out⟩ ?_
    rintro W ⟨b1, k1⟩
    have B2 := Aside0.mk b1
    have K2 := Aside0.mk k1
    clear b1 k1 hg5 K1 B1
    clear w1
    go_wp2
    go_loopw [7, 8, 9, 10] (fun v7 v8 v9 v10 wr => ∃ (k : Nat) (sb : Bool) (ca cb : Int), v7 = .bool sb ∧ v8 = .int .i64 ca ∧ v9 = .int .i64 cb ∧ v10 = .int .i64 k ∧ k ≤ l.length ∧ 0 ≤ ca ∧ ca ≤ k ∧ 0 ≤ cb ∧ cb ≤ k ∧ Aside0 (some_ ((l.take k).map pr) = sb) ∧ Aside0 (cnt ((l.take k).map pr) lo = ca) ∧ Aside0 (cnt ((l.take k).map pr) v = cb) ∧ Aside0 (Below w.heap.size w wr) ∧ Aside0 (wr.heap[g5]? = some (.cells #[.int .i64 lo, .int .i64 hi] 61 (0, 0)))) (fun _ _ _ v10 _ => l.length - (intOf v10).toNat)
    case atStart => exact ⟨0, false, 0, 0, rfl, rfl, rfl, rfl, by omega, by omega, by omega, by omega, by omega, ⟨rfl⟩, ⟨rfl⟩, ⟨rfl⟩, B2, K2⟩
    case round =>
      clear B2 K2
      obtain ⟨k, sb, ca, cb, rfl, rfl, rfl, rfl, hk, ha0, ha1, hb0, hb1, E7, E8, E9, B2, K2⟩ := hrel
      by_cases c23 : k < l.length
      · have c23b : decide ((k : Int) < (l.length : Int)) = true := decide_eq_true (by omega)
        obtain ⟨ad, e0, hx0, hx1⟩ := at_T61 HR.out (k : Int) (by omega) (by omega)
        subst e0
        have n7 := some_take l k c23
        have n8 := cnt_take l k c23 lo
        have n9 := cnt_take l k c23 v
        rw [rd_at l k c23, Int.toNat_natCast] at hx0 hx1
        obtain ⟨x, ex⟩ : ∃ x, l[k] = x := ⟨_, rfl⟩
        rw [ex] at hx0 hx1 n7 n8 n9
        obtain ⟨x0, x1⟩ := x
        simp only at hx0 hx1
        rw [show pr ⟨x0, x1⟩ = (x0, x1) from rfl] at n7 n8 n9
        rw [E7.out] at n7
        rw [E8.out] at n8
        rw [E9.out] at n9
        have R45 := right_ok x0 x1
        have H1 := holds_ok x0 x1 lo
        have H2 := holds_ok x0 x1 v
        obtain ⟨rv, hrv⟩ : ∃ r, rt (x0, x1) = r := ⟨_, rfl⟩
        obtain ⟨hl, hhl⟩ : ∃ r, hold (x0, x1) lo = r := ⟨_, rfl⟩
        obtain ⟨hv, hhv⟩ : ∃ r, hold (x0, x1) v = r := ⟨_, rfl⟩
        rw [hrv] at R45 n7
        rw [hhl] at H1 n8
        rw [hhv] at H2 n9
        clear hrv hhl hhv ex
        have N7 := Aside0.mk n7
        have N8 := Aside0.mk n8
        have N9 := Aside0.mk n9
        have X0 := Aside0.mk hx0
        have X1 := Aside0.mk hx1
        clear n7 n8 n9
        replace hx0 := cell_below' B2.out hx0
        replace hx1 := cell_below' B2.out hx1
        have kz : (0 : Int) ≤ (k : Int) := by omega
        have kz2 : (k : Int) < (l.length : Int) := by omega
        cases sb with
        | true =>
          go_upto_region 11 with (fail)
          refine wp_gen (fun W => Below w.heap.size w W ∧ W.heap[g5]? = some (.cells #[.int .i64 lo, .int .i64 hi] 61 (0, 0))) ⟨B2.out, K2.out⟩ ?_
          rintro W2 ⟨b1, k1⟩
          have BB := Aside0.mk b1
          have KK := Aside0.mk k1
          clear b1 k1
          have y0 := cell_below' BB.out X0.out
          have y1 := cell_below' BB.out X1.out
          have y2 : W2.cell? ⟨g5, 0, none⟩ = some (.int .i64 lo) := (blk_cell KK.out 0).trans rfl
          go_region_held3 (fun W => W.cell? (ad.add (k * 2)) = some (.int .i64 x0) ∧ W.cell? ⟨(ad.add (k * 2)).block, (ad.add (k * 2)).off + 1, none⟩ = some (.int .i64 x1) ∧ W.cell? ⟨g5, 0, none⟩ = some (.int .i64 lo)) (go_keep) (first | (go_at_call 28; go_loud (refine (H1 _).mono ?_; rintro en wq ⟨rfl, hb⟩; have Bq : Aside0 (Below w.heap.size w wq) := ⟨below_step (below_drew BB.out) hb⟩; have Kq : Aside0 (wq.heap[g5]? = some (.cells #[.int .i64 lo, .int .i64 hi] 61 (0, 0))) := ⟨blk_below (blk_drew KK.out) hb⟩; have z0 := cell_below' hb y0; have z1 := cell_below' hb y1; have z2 := cell_below' hb y2; clear hb)))
          all_goals
            have hw8 : IntKind.i64.wrap (ca + 1) = ca + 1 := by rw [IntKind.wrap_i64]; omega
            have hw9 : IntKind.i64.wrap (cb + 1) = cb + 1 := by rw [IntKind.wrap_i64]; omega
            clear H1 R45
            cases hl
            all_goals cases hv
            all_goals
              go_wp2_with (first | (go_at_call 28; go_loud (refine (H2 _).mono ?_; rintro en ws ⟨rfl, hb⟩; have Bs := Aside0.mk (below_step Bq.out hb); have Ks := Aside0.mk (blk_below Kq.out hb); clear hb)))
              go_roundw
              case rel => exact ⟨k + 1, _, _, _, rfl, rfl, rfl, by go_num, by omega, by omega, by omega, by omega, by omega, ⟨by rw [N7.out]; try rfl⟩, ⟨by rw [N8.out]; simp⟩, ⟨by rw [N9.out]; simp⟩, Bs, Ks⟩
              case measure => simp [intOf]; omega
        | false =>
          go_upto_region 11 with (first | (go_at_call 45; go_loud (refine (R45 _).mono ?_; rintro e wa ⟨rfl, hb⟩; have Ba := Aside0.mk (below_step B2.out hb); have Ka := Aside0.mk (blk_below K2.out hb); clear hb)))
          refine wp_gen (fun W => Below w.heap.size w W ∧ W.heap[g5]? = some (.cells #[.int .i64 lo, .int .i64 hi] 61 (0, 0))) ⟨Ba.out, Ka.out⟩ ?_
          rintro W2 ⟨b1, k1⟩
          have BB := Aside0.mk b1
          have KK := Aside0.mk k1
          clear b1 k1
          have y0 := cell_below' BB.out X0.out
          have y1 := cell_below' BB.out X1.out
          have y2 : W2.cell? ⟨g5, 0, none⟩ = some (.int .i64 lo) := (blk_cell KK.out 0).trans rfl
          go_region_held3 (fun W => W.cell? (ad.add (k * 2)) = some (.int .i64 x0) ∧ W.cell? ⟨(ad.add (k * 2)).block, (ad.add (k * 2)).off + 1, none⟩ = some (.int .i64 x1) ∧ W.cell? ⟨g5, 0, none⟩ = some (.int .i64 lo)) (go_keep) (first | (go_at_call 28; go_loud (refine (H1 _).mono ?_; rintro en wq ⟨rfl, hb⟩; have Bq : Aside0 (Below w.heap.size w wq) := ⟨below_step (below_drew BB.out) hb⟩; have Kq : Aside0 (wq.heap[g5]? = some (.cells #[.int .i64 lo, .int .i64 hi] 61 (0, 0))) := ⟨blk_below (blk_drew KK.out) hb⟩; have z0 := cell_below' hb y0; have z1 := cell_below' hb y1; have z2 := cell_below' hb y2; clear hb)))
          all_goals
            have hw8 : IntKind.i64.wrap (ca + 1) = ca + 1 := by rw [IntKind.wrap_i64]; omega
            have hw9 : IntKind.i64.wrap (cb + 1) = cb + 1 := by rw [IntKind.wrap_i64]; omega
            clear H1 R45
            cases hl
            all_goals cases hv
            all_goals
              go_wp2_with (first | (go_at_call 28; go_loud (refine (H2 _).mono ?_; rintro en ws ⟨rfl, hb⟩; have Bs := Aside0.mk (below_step Bq.out hb); have Ks := Aside0.mk (blk_below Kq.out hb); clear hb)))
              go_roundw
              case rel => exact ⟨k + 1, _, _, _, rfl, rfl, rfl, by go_num, by omega, by omega, by omega, by omega, by omega, ⟨by rw [N7.out]; try rfl⟩, ⟨by rw [N8.out]; simp⟩, ⟨by rw [N9.out]; simp⟩, Bs, Ks⟩
              case measure => simp [intOf]; omega
      · have c23b : decide ((k : Int) < (l.length : Int)) = false := decide_eq_false (by omega)
        have e7 := E7.out
        have e8 := E8.out
        have e9 := E9.out
        rw [List.take_of_length_le (by omega)] at e7 e8 e9
        obtain ⟨t1, t2, t3⟩ := HT.out
        rw [e7] at t1 t3
        rw [e8] at t3
        rw [e9] at t2
        have u1 : decide (mn > 0) = sb := t1.symm
        have u2 : decide (cb ≤ mn) = true := decide_eq_true t2
        clear e7 e8 e9 t1 t2
        cases sb with
        | true =>
          have u3 := t3 rfl
          clear t3
          subst u3
          go_wp2_with (first | (go_at_call 42; go_loud (refine (awake_ok _).mono ?_; rintro e w3 ⟨rfl, hb⟩; have B3 := Aside0.mk (below_step B2.out hb); clear hb)))
          go_ret
          exact ⟨rfl, B3.out⟩
        | false =>
          clear t3
          go_wp2_with (first | (go_at_call 42; go_loud (refine (awake_ok _).mono ?_; rintro e w3 ⟨rfl, hb⟩; have B3 := Aside0.mk (below_step B2.out hb); clear hb)))
          go_ret
          exact ⟨rfl, B3.out⟩
  · have hnb : decide ((l.length : Int) > 200) = true := decide_eq_true (by omega)
    have HR := Aside0.mk hr
    clear hr
    go_enter Try.func10, Try.ntmps10
    go_wp2_with (first | (go_at_call 42; go_loud (refine (awake_ok _).mono ?_; rintro e w3 ⟨rfl, hb⟩; have B3 := Aside0.mk (hb); clear hb)))
    go_ret
    exact ⟨rfl, B3.out⟩
end Go.Proofs.Ytfaikkhnlioajaa.Iv7
