/- Not for ever. -/
import Derived.Test.YtiiaooaigeenoaaProg
import Derived.Below
import Derived.Deep.Draws
import Derived.Deep.AppendLies
import Derived.Maps.AppendAt
import Derived.OwnWalk
import Derived.Laws.BytesArg
import Derived.Laws.MakeOwn
import Derived.Laws.OwnMore
import Derived.Deep.OwnRows
import Derived.Tactics
import Derived.Lib.ConvBytes
import Derived.Laws.Slices
import Derived.WalkKit
import Derived.KernelRfl
import Derived.RowKit3
import Derived.Deep.LoopGhost
import Derived.Deep.QuietTactic
import Derived.BigQuiet
import Derived.WideLaws
import Derived.Deep.DeepCutAuto
import Derived.Deep.CutBlock
import Derived.Deep.RegionHeld3
import Derived.Laws.Rows
import Derived.Lib.AppendStr
import Derived.ArgAppend
import Derived.Laws.IdiomCopy
import Derived.OrdersHeld
import Derived.Laws.BitsLemmas
import Derived.RowKit
import Derived.RegionTactic
import Derived.ChangeAlike
import Derived.Outline
import Derived.LoopTactic
import Derived.WalkSpells
import Derived.WalkLawsBesides
import Derived.Lib.Hide
import Derived.StillTailTactics
import Derived.Deep.RegionWith
import Derived.Deep.RegionLaw
import Derived.Deep.DeepFit
import Derived.Deep.DeepMust
import Derived.Test.YtiiaooaigeenoaaWWords
import Derived.Test.YtiiaooaigeenoaaWLast
import Derived.Test.YtiiaooaigeenoaaWTab
import Derived.Test.YtiiaooaigeenoaaWFour
import Derived.Test.YtiiaooaigeenoaaWQPut
import Derived.Test.YtiiaooaigeenoaaWApart
import Derived.Test.YtiiaooaigeenoaaWArr
import Derived.Test.YtiiaooaigeenoaaWZeros
import Derived.Test.YtiiaooaigeenoaaWFoot
import Derived.Test.YtiiaooaigeenoaaWKept
import Derived.Test.YtiiaooaigeenoaaWShare
import Derived.Test.YtiiaooaigeenoaaWN
import Derived.Test.YtiiaooaigeenoaaWFootNe
import Derived.Test.YtiiaooaigeenoaaWAt
import Derived.Test.YtiiaooaigeenoaaWEqStruct
import Derived.Test.YtiiaooaigeenoaaWRepsOne
import Derived.Test.YtiiaooaigeenoaaWInv
import Derived.Test.YtiiaooaigeenoaaWInvWords
import Derived.Test.YtiiaooaigeenoaaWGuard
import Derived.Test.YtiiaooaigeenoaaWNEv
import Derived.Test.YtiiaooaigeenoaaWMore
import Derived.Test.YtiiaooaigeenoaaModeA
namespace Go.Proofs.Ytiiaooaigeenoaa.ModeB
open Go.RowKit Go.Proofs.YtiiaooaigeenoaaW.PrintWords Go.Proofs.YtiiaooaigeenoaaW.PrintLast Go.Proofs.YtiiaooaigeenoaaW.PrintMore 
attribute [local go_sem] max2_int min2_int max_two min_two max_three min_three max_four min_four
set_option linter.unusedVariables false
set_option linter.unusedSimpArgs false
open Go.Proofs.Ytiiaooaigeenoaa.QBase Go.Proofs.Ytiiaooaigeenoaa.Sch Go.Proofs.Ytiiaooaigeenoaa.Mode1 Go.Proofs.Ytiiaooaigeenoaa.Mode2 Go.Proofs.Ytiiaooaigeenoaa.Mode3 Go.Proofs.Ytiiaooaigeenoaa.Mode4 Go.Proofs.Ytiiaooaigeenoaa.Mode7 Go.Proofs.Ytiiaooaigeenoaa.ModeA
set_option maxRecDepth 100000 in
set_option maxHeartbeats 4000000 in
theorem pat_bad (n f s dl ks ee wd rh sl cp i : Int) (near many : Int) (w : World) (h : ¬ (Ok n f s dl ks ee wd rh sl cp ∧ 0 ≤ i ∧ i < n)) : Calls Try.prog 3 #[.agg #[.int .i64 n, .int .i64 f, .int .i64 s, .int .i64 dl, .int .i64 ks, .int .i64 ee, .int .i64 wd, .int .i64 rh, .int .i64 sl, .int .i64 cp], .int .i64 i, .int .i64 near, .int .u16 many] w fun en w' => en = .returned (.bool true) ∧ Below w.heap.size w w' := by
  have HN := Aside0.mk h
  clear h
  go_enter Try.func3, Try.ntmps3
  go_wp2_with (first | (go_at_call 8; go_loud (refine (new_not n f s dl ks ee wd rh sl cp i _ HN.out).mono ?_; rintro en w1 ⟨rfl, hb1⟩; have HB1 := Aside0.mk (below_step (below_alloc (Below.refl _ _) (.cells #[.int .i64 n, .int .i64 f, .int .i64 s, .int .i64 dl, .int .i64 ks, .int .i64 ee, .int .i64 wd, .int .i64 rh, .int .i64 sl, .int .i64 cp] 23 (0, 0))) hb1); clear hb1)) | (go_at_call 9; go_loud (refine (awake_ok _).mono ?_; rintro en w2 ⟨rfl, hb2⟩; have HB2 := Aside0.mk (below_step HB1.out hb2); clear hb2)))
  go_ret
  exact ⟨rfl, HB2.out⟩
/-- Where a node is that waits, ahead of round k. -/
def patI (p k md id : Int) : Prop := (k ≤ p ∧ (md = 2 ∨ md = 3) ∧ id = k - 1) ∨ (p < k ∧ md = 1 ∧ id = p)
theorem pat_step (p n f k md id near : Int) (hp : 12 ≤ p) (k1 : 1 ≤ k) (h : patI p k md id) : ∃ a b, roundF p n f md id near false = (a, b) ∧ patI p (k + 1) a b ∧ (k < p → a ≠ 1 ∧ b = k) ∧ (p ≤ k → a = 1) := by
  rcases h with ⟨h1, h2, h3⟩ | ⟨h1, h2, h3⟩
  · have hs : stepF n f md near false = 2 ∨ stepF n f md near false = 3 := by
      unfold stepF
      rcases h2 with rfl | rfl
      · rw [if_pos rfl]; split <;> simp
      · rw [if_neg (by omega)]; split <;> simp
    obtain ⟨x, hx⟩ : ∃ x, stepF n f md near false = x := ⟨_, rfl⟩
    rw [hx] at hs
    by_cases hk : p ≤ k
    · refine ⟨1, id + 1, ?_, Or.inr ⟨by omega, rfl, by omega⟩, fun h => by omega, fun _ => rfl⟩
      unfold roundF waitF
      rw [if_neg (by omega), hx, if_neg (by omega), if_pos (by omega)]
    · refine ⟨x, id + 1, ?_, Or.inl ⟨by omega, by omega, by omega⟩, fun h => by omega, fun h => by omega⟩
      unfold roundF waitF
      rw [if_neg (by omega), hx, if_neg (by omega), if_neg (by omega)]
  · refine ⟨1, id, ?_, Or.inr ⟨by omega, rfl, h3⟩, fun h => by omega, fun _ => rfl⟩
    unfold roundF
    rw [h2, if_pos (Or.inr rfl)]
set_option maxRecDepth 100000 in
set_option maxHeartbeats 8000000 in
theorem pat_good (n f s dl ks ee wd rh sl cp i near many : Int) (w : World) (hk : Ok n f s dl ks ee wd rh sl cp) (i0 : 0 ≤ i) (i1 : i < n) (y0 : 0 ≤ many) (y1 : many ≤ 65535) : Calls Try.prog 3 #[.agg #[.int .i64 n, .int .i64 f, .int .i64 s, .int .i64 dl, .int .i64 ks, .int .i64 ee, .int .i64 wd, .int .i64 rh, .int .i64 sl, .int .i64 cp], .int .i64 i, .int .i64 near, .int .u16 many] w fun en w' => en = .returned (.bool true) ∧ Below w.heap.size w w' := by
  have hp := pat_bd n f s dl ks ee wd rh sl cp i hk i0 i1
  obtain ⟨n0, n1, f0, f1⟩ := ok_n hk
  obtain ⟨p, hpe⟩ : ∃ p, pat n s dl wd rh sl i = p := ⟨_, rfl⟩
  have HP := Aside0.mk (show sched_Patience.f 3 n f s dl ks ee wd rh sl cp i = some p by rw [← hpe]; exact patience_in 0 n f s dl ks ee wd rh sl cp i hk i0 i1)
  have HPE := Aside0.mk hpe
  rw [hpe] at hp
  have HK := Aside0.mk hk
  have hm : 0 ≤ many % 500 ∧ many % 500 ≤ 499 := by omega
  obtain ⟨hp0, hp1⟩ := hp
  clear hk hpe
  go_enter Try.func3, Try.ntmps3
  go_wp2_with (first | (go_at_call 8; go_loud (refine (new_yes n f s dl ks ee wd rh sl cp i _ HK.out i0 i1).mono ?_; rintro en w1 ⟨g, rfl, a1, a2⟩; have cc := blk_below (blk_new w (.cells #[.int .i64 n, .int .i64 f, .int .i64 s, .int .i64 dl, .int .i64 ks, .int .i64 ee, .int .i64 wd, .int .i64 rh, .int .i64 sl, .int .i64 cp] 23 (0, 0))) a2; have c0 : w1.cell? ⟨w.heap.size, 0, none⟩ = some (.int .i64 n) := (blk_cell cc 0).trans rfl; have c1 : w1.cell? ⟨w.heap.size, 1, none⟩ = some (.int .i64 f) := (blk_cell cc 1).trans rfl; have c2 : w1.cell? ⟨w.heap.size, 2, none⟩ = some (.int .i64 s) := (blk_cell cc 2).trans rfl; have c3 : w1.cell? ⟨w.heap.size, 3, none⟩ = some (.int .i64 dl) := (blk_cell cc 3).trans rfl; have c4 : w1.cell? ⟨w.heap.size, 4, none⟩ = some (.int .i64 ks) := (blk_cell cc 4).trans rfl; have c5 : w1.cell? ⟨w.heap.size, 5, none⟩ = some (.int .i64 ee) := (blk_cell cc 5).trans rfl; have c6 : w1.cell? ⟨w.heap.size, 6, none⟩ = some (.int .i64 wd) := (blk_cell cc 6).trans rfl; have c7 : w1.cell? ⟨w.heap.size, 7, none⟩ = some (.int .i64 rh) := (blk_cell cc 7).trans rfl; have c8 : w1.cell? ⟨w.heap.size, 8, none⟩ = some (.int .i64 sl) := (blk_cell cc 8).trans rfl; have c9 : w1.cell? ⟨w.heap.size, 9, none⟩ = some (.int .i64 cp) := (blk_cell cc 9).trans rfl; clear cc; have cX : w1.cell? ⟨w.heap.size, 0, none⟩ = some (.int .i64 n) := (blk_cell (blk_below (blk_new w (.cells #[.int .i64 n, .int .i64 f, .int .i64 s, .int .i64 dl, .int .i64 ks, .int .i64 ee, .int .i64 wd, .int .i64 rh, .int .i64 sl, .int .i64 cp] 23 (0, 0))) a2) 0).trans rfl; have I1 := Aside0.mk a1; have B1 := Aside0.mk a2; clear a1 a2; have tok1 : True := trivial)) | (go_at_call 10; go_loud (refine (set_yes g n f s dl ks ee wd rh sl cp i 1 0 3 _ _ I1.out B1.out (by omega) (by omega) rfl).mono ?_; rintro en w3 ⟨rfl, a1, a2, a3⟩; have cc := blk_below (blk_new w (.cells #[.int .i64 n, .int .i64 f, .int .i64 s, .int .i64 dl, .int .i64 ks, .int .i64 ee, .int .i64 wd, .int .i64 rh, .int .i64 sl, .int .i64 cp] 23 (0, 0))) a2; have d0 : w3.cell? ⟨w.heap.size, 0, none⟩ = some (.int .i64 n) := (blk_cell cc 0).trans rfl; have d1 : w3.cell? ⟨w.heap.size, 1, none⟩ = some (.int .i64 f) := (blk_cell cc 1).trans rfl; have d2 : w3.cell? ⟨w.heap.size, 2, none⟩ = some (.int .i64 s) := (blk_cell cc 2).trans rfl; have d3 : w3.cell? ⟨w.heap.size, 3, none⟩ = some (.int .i64 dl) := (blk_cell cc 3).trans rfl; have d4 : w3.cell? ⟨w.heap.size, 4, none⟩ = some (.int .i64 ks) := (blk_cell cc 4).trans rfl; have d5 : w3.cell? ⟨w.heap.size, 5, none⟩ = some (.int .i64 ee) := (blk_cell cc 5).trans rfl; have d6 : w3.cell? ⟨w.heap.size, 6, none⟩ = some (.int .i64 wd) := (blk_cell cc 6).trans rfl; have d7 : w3.cell? ⟨w.heap.size, 7, none⟩ = some (.int .i64 rh) := (blk_cell cc 7).trans rfl; have d8 : w3.cell? ⟨w.heap.size, 8, none⟩ = some (.int .i64 sl) := (blk_cell cc 8).trans rfl; have d9 : w3.cell? ⟨w.heap.size, 9, none⟩ = some (.int .i64 cp) := (blk_cell cc 9).trans rfl; clear cc; have I3 := Aside0.mk a1; have B3 := Aside0.mk a2; clear a1 a2 a3)) | (go_at_call 11; go_loud (refine (sched_Patience.calls 3 n f s dl ks ee wd rh sl cp i p _ HP.out).mono ?_; rintro en w4 ⟨rfl, hb⟩; have I4 : Aside0 (IsS43 (w.alloc (.cells #[.int .i64 n, .int .i64 f, .int .i64 s, .int .i64 dl, .int .i64 ks, .int .i64 ee, .int .i64 wd, .int .i64 rh, .int .i64 sl, .int .i64 cp] 23 (0, 0))) w4 g n f s dl ks ee wd rh sl cp i 2 0 true) := ⟨blk_below I3.out.1 hb, I3.out.2⟩; have B4 := Aside0.mk (below_step B3.out hb); clear hb)))
  go_loopw [12] (fun v wr => ∃ (k md id : Int), v = .int .i64 k ∧ 1 ≤ k ∧ k ≤ 500 ∧ Aside0 (patI p k md id) ∧ Aside0 (IsS43 (w.alloc (.cells #[.int .i64 n, .int .i64 f, .int .i64 s, .int .i64 dl, .int .i64 ks, .int .i64 ee, .int .i64 wd, .int .i64 rh, .int .i64 sl, .int .i64 cp] 23 (0, 0))) wr g n f s dl ks ee wd rh sl cp i md id true) ∧ Aside0 (Below (w.alloc (.cells #[.int .i64 n, .int .i64 f, .int .i64 s, .int .i64 dl, .int .i64 ks, .int .i64 ee, .int .i64 wd, .int .i64 rh, .int .i64 sl, .int .i64 cp] 23 (0, 0))).heap.size (w.alloc (.cells #[.int .i64 n, .int .i64 f, .int .i64 s, .int .i64 dl, .int .i64 ks, .int .i64 ee, .int .i64 wd, .int .i64 rh, .int .i64 sl, .int .i64 cp] 23 (0, 0))) wr)) (fun v _ => (500 - intOf v).toNat)
  case atStart => exact ⟨1, 2, 0, rfl, by omega, by omega, ⟨Or.inl ⟨by omega, Or.inl rfl, by omega⟩⟩, I4, B4⟩
  case round =>
    obtain ⟨k, md, id, rfl, k0, k1, hm5, I5, B5⟩ := hrel
    clear I1 B1 I3 B3 I4 B4 c0 d0 c1 d1 c2 d2 c3 d3 c4 d4 c5 d5 c6 d6 c7 d7 c8 d8 c9 d9 cX
    obtain ⟨a, b, hr, hi, hlo, hhi⟩ := pat_step p n f k md id near hp0 k0 hm5.out
    have hb5 : 0 ≤ md ∧ md ≤ 4 ∧ 0 ≤ id ∧ id ≤ 1000000 := by have := hm5.out; unfold patI at this; omega
    obtain ⟨m0, m1, d0, d1⟩ := hb5
    have E3 := Aside0.mk (show roundF (pat n s dl wd rh sl i) n f md id near false = (a, b) by rw [HPE.out]; exact hr)
    have HI := Aside0.mk hi
    clear hr hi hm5
    by_cases hlt : k ≤ many % 500
    · by_cases hkp : k < p
      · have h1 := (hlo hkp).1
        obtain rfl := (hlo hkp).2
        have hab : (a == 1) = false := beq_eq_false_iff_ne.2 h1
        have h2 : decide (b < p) = true := decide_eq_true hkp
        clear hlo hhi h1
        have tok3 : True := trivial
        go_wp2_with (first | (go_at_call 12; have _t := tok3; go_loud (refine (round_to g n f s dl ks ee wd rh sl cp i md id near false _ _ I5.out B5.out HK.out i0 i1 (by omega) (by omega) (by omega) (by omega) a b E3.out).mono ?_; rintro en w6 ⟨rfl, a1, a2, a3⟩; have d6 : w6.cell? ⟨w.heap.size, 0, none⟩ = some (.int .i64 n) := (blk_cell (blk_below (blk_new w (.cells #[.int .i64 n, .int .i64 f, .int .i64 s, .int .i64 dl, .int .i64 ks, .int .i64 ee, .int .i64 wd, .int .i64 rh, .int .i64 sl, .int .i64 cp] 23 (0, 0))) a2) 0).trans rfl; have I6 := Aside0.mk a1; have B6 := Aside0.mk a2; clear a1 a2 a3 tok3)) | (go_at_call 13; go_loud (refine (idle_ok g n f s dl ks ee wd rh sl cp i a b _ _ I6.out B6.out).mono ?_; rintro en w7 ⟨rfl, rfl⟩)))
        go_roundw
        case rel => exact ⟨b + 1, a, b, by go_num, by omega, by omega, HI, I6, B6⟩
        case measure => simp [intOf]; omega
      · obtain rfl := hhi (by omega)
        have h2 : decide (k < p) = false := decide_eq_false hkp
        have h3 : p ≤ k := by omega
        clear hlo hhi
        have tok3 : True := trivial
        go_wp2_with (first | (go_at_call 12; have _t := tok3; go_loud (refine (round_to g n f s dl ks ee wd rh sl cp i md id near false _ _ I5.out B5.out HK.out i0 i1 (by omega) (by omega) (by omega) (by omega) 1 b E3.out).mono ?_; rintro en w6 ⟨rfl, a1, a2, a3⟩; have d6 : w6.cell? ⟨w.heap.size, 0, none⟩ = some (.int .i64 n) := (blk_cell (blk_below (blk_new w (.cells #[.int .i64 n, .int .i64 f, .int .i64 s, .int .i64 dl, .int .i64 ks, .int .i64 ee, .int .i64 wd, .int .i64 rh, .int .i64 sl, .int .i64 cp] 23 (0, 0))) a2) 0).trans rfl; have I6 := Aside0.mk a1; have B6 := Aside0.mk a2; clear a1 a2 a3 tok3)))
        go_roundw
        case rel => exact ⟨k + 1, 1, b, by go_num, by omega, by omega, HI, I6, B6⟩
        case measure => simp [intOf]; omega
    · clear hlo hhi
      go_wp2_with (first | (go_at_call 9; go_loud (refine (awake_ok _).mono ?_; rintro en w8 ⟨rfl, hb2⟩; have HB2 := Aside0.mk (below_step (below_weaken (below_alloc (Below.refl _ _) (.cells #[.int .i64 n, .int .i64 f, .int .i64 s, .int .i64 dl, .int .i64 ks, .int .i64 ee, .int .i64 wd, .int .i64 rh, .int .i64 sl, .int .i64 cp] 23 (0, 0))) (by simp) B5.out) hb2); clear hb2)))
      go_ret
      exact ⟨rfl, HB2.out⟩
theorem patience_any (n f s dl ks ee wd rh sl cp i near many : Int) (w : World) (y0 : 0 ≤ many) (y1 : many ≤ 65535) : Calls Try.prog 3 #[.agg #[.int .i64 n, .int .i64 f, .int .i64 s, .int .i64 dl, .int .i64 ks, .int .i64 ee, .int .i64 wd, .int .i64 rh, .int .i64 sl, .int .i64 cp], .int .i64 i, .int .i64 near, .int .u16 many] w fun en w' => en = .returned (.bool true) ∧ Below w.heap.size w w' := by
  by_cases h : Ok n f s dl ks ee wd rh sl cp ∧ 0 ≤ i ∧ i < n
  · exact pat_good n f s dl ks ee wd rh sl cp i near many w h.1 h.2.1 h.2.2 y0 y1
  · exact pat_bad n f s dl ks ee wd rh sl cp i near many w h
end Go.Proofs.Ytiiaooaigeenoaa.ModeB
