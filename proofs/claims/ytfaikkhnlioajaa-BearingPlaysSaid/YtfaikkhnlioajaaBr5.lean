/- What is known of another one is put. -/
import Derived.Test.YtfaikkhnlioajaaProg
import Derived.Below
import Derived.Deep.Draws
import Derived.Deep.AppendLies
import Derived.Maps.AppendAt
import Derived.OwnWalk
import Derived.Laws.BytesArg
import Derived.Laws.MakeOwn
import Derived.Laws.OwnMore
import Derived.Deep.OwnRows
import Derived.Tactics
import Derived.Lib.ConvBytes
import Derived.Laws.Slices
import Derived.WalkKit
import Derived.KernelRfl
import Derived.RowKit3
import Derived.Deep.LoopGhost
import Derived.Deep.QuietTactic
import Derived.BigQuiet
import Derived.WideLaws
import Derived.Deep.DeepCutAuto
import Derived.Deep.CutBlock
import Derived.Deep.RegionHeld3
import Derived.Laws.Rows
import Derived.Lib.AppendStr
import Derived.ArgAppend
import Derived.Laws.IdiomCopy
import Derived.OrdersHeld
import Derived.Laws.BitsLemmas
import Derived.RowKit
import Derived.RegionTactic
import Derived.ChangeAlike
import Derived.Outline
import Derived.LoopTactic
import Derived.WalkSpells
import Derived.WalkLawsBesides
import Derived.Lib.Hide
import Derived.StillTailTactics
import Derived.Deep.RegionWith
import Derived.Deep.RegionLaw
import Derived.Deep.DeepFit
import Derived.Deep.DeepMust
import Derived.Test.YtfaikkhnlioajaaWWords
import Derived.Test.YtfaikkhnlioajaaWLast
import Derived.Test.YtfaikkhnlioajaaWTab
import Derived.Test.YtfaikkhnlioajaaWFour
import Derived.Test.YtfaikkhnlioajaaWQPut
import Derived.Test.YtfaikkhnlioajaaWApart
import Derived.Test.YtfaikkhnlioajaaWArr
import Derived.Test.YtfaikkhnlioajaaWZeros
import Derived.Test.YtfaikkhnlioajaaWFoot
import Derived.Test.YtfaikkhnlioajaaWKept
import Derived.Test.YtfaikkhnlioajaaWShare
import Derived.Test.YtfaikkhnlioajaaWN
import Derived.Test.YtfaikkhnlioajaaWFootNe
import Derived.Test.YtfaikkhnlioajaaWAt
import Derived.Test.YtfaikkhnlioajaaWEqStruct
import Derived.Test.YtfaikkhnlioajaaWRepsOne
import Derived.Test.YtfaikkhnlioajaaWInv
import Derived.Test.YtfaikkhnlioajaaWInvWords
import Derived.Test.YtfaikkhnlioajaaWGuard
import Derived.Test.YtfaikkhnlioajaaWNEv
import Derived.Test.YtfaikkhnlioajaaWMore
import Derived.Test.YtfaikkhnlioajaaBr4
namespace Go.Proofs.Ytfaikkhnlioajaa.Br5
open Go.RowKit Go.Proofs.YtfaikkhnlioajaaW.PrintWords Go.Proofs.YtfaikkhnlioajaaW.PrintLast Go.Proofs.YtfaikkhnlioajaaW.PrintMore 
attribute [local go_sem] max2_int min2_int max_two min_two max_three min_three max_four min_four
set_option linter.unusedVariables false
set_option linter.unusedSimpArgs false
open Go.Proofs.Ytfaikkhnlioajaa.QBase Go.Proofs.Ytfaikkhnlioajaa.Sch Go.Proofs.Ytfaikkhnlioajaa.Plc Go.Proofs.Ytfaikkhnlioajaa.Gd1 Go.Proofs.Ytfaikkhnlioajaa.Gd2 Go.Proofs.Ytfaikkhnlioajaa.Gd3 Go.Proofs.Ytfaikkhnlioajaa.Gd4 Go.Proofs.Ytfaikkhnlioajaa.BrP Go.Proofs.Ytfaikkhnlioajaa.Br1 Go.Proofs.Ytfaikkhnlioajaa.Br2 Go.Proofs.Ytfaikkhnlioajaa.Br3 Go.Proofs.Ytfaikkhnlioajaa.Br4 Go.Maps
attribute [local go_sem] cellS1 frozenS1 cellS2 frozenS2 cellS3 frozenS3 cellS4 frozenS4 cellS5 frozenS5 cellS6 frozenS6

set_option maxRecDepth 100000 in
set_option maxHeartbeats 4000000 in
theorem put_bad (g bm : Nat) (n f s dl ks ee wd rh sl cp i : Int) (r lo hi t : Int) (z w : World) (hI : IsT z w g bm n f s dl ks ee wd rh sl cp i) (hmay : mayF n i r t = false) : Calls Try.prog 25 #[.pointer (some ⟨g, 0, none⟩), .int .i64 r, .agg #[.int .i64 lo, .int .i64 hi], .int .i64 t] w fun en w' => en = .returned (.int .i64 1) ∧ Below w.heap.size w w' := by
  have HI := Aside0.mk hI
  have HMAY := Aside0.mk hmay
  clear hI hmay
  go_enter Try.func25, Try.ntmps25
  go_wp2_with (first | (go_at_call 53; go_loud (refine (none_ok g bm n f s dl ks ee wd rh sl cp i z _ (IsT.alloc HI.out _)).mono ?_; rintro en w1 ⟨rfl, e1⟩; rw [e1]; clear e1)) | (go_at_call 54; go_loud (refine (may_any g bm n f s dl ks ee wd rh sl cp i r t z _ (IsT.alloc HI.out _) false HMAY.out).mono ?_; rintro en w1 ⟨rfl, e1⟩; rw [e1]; clear e1)))
  go_ret
  exact ⟨rfl, below_alloc (Below.refl _ _) _⟩
set_option maxRecDepth 100000 in
set_option maxHeartbeats 4000000 in
theorem put_form (g bm : Nat) (n f s dl ks ee wd rh sl cp i : Int) (r lo hi t : Int) (z w : World) (hI : IsT z w g bm n f s dl ks ee wd rh sl cp i) (hmay : mayF n i r t = true) (hR : ¬ R lo hi) : Calls Try.prog 25 #[.pointer (some ⟨g, 0, none⟩), .int .i64 r, .agg #[.int .i64 lo, .int .i64 hi], .int .i64 t] w fun en w' => en = .returned (.int .i64 1) ∧ Below w.heap.size w w' := by
  have HI := Aside0.mk hI
  have HMAY := Aside0.mk hmay
  have HR : Aside0 (ival_Right.f lo hi = some false) := ⟨by rw [right_eq, decide_eq_false hR]⟩
  clear hI hmay hR
  go_enter Try.func25, Try.ntmps25
  go_wp2_with (first | (go_at_call 53; go_loud (refine (none_ok g bm n f s dl ks ee wd rh sl cp i z _ (IsT.alloc HI.out _)).mono ?_; rintro en w1 ⟨rfl, e1⟩; rw [e1]; clear e1)) | (go_at_call 54; go_loud (refine (may_any g bm n f s dl ks ee wd rh sl cp i r t z _ (IsT.alloc HI.out _) true HMAY.out).mono ?_; rintro en w1 ⟨rfl, e1⟩; rw [e1]; clear e1)) | (go_at_call 45; go_loud (refine (ival_Right.calls lo hi false _ HR.out).mono ?_; rintro en w2 ⟨rfl, hb2⟩; have J2 : Aside0 (IsT z w2 g bm n f s dl ks ee wd rh sl cp i) := ⟨IsT.below (IsT.alloc HI.out _) hb2⟩; have B2 : Aside0 (Below w.heap.size w w2) := ⟨below_step (below_alloc (Below.refl _ _) _) hb2⟩; have F2 : Aside0 (w2.heap[w.heap.size]? = some (.cells #[.int .i64 lo, .int .i64 hi] 61 (0, 0))) := ⟨blk_below (blk_new _ _) hb2⟩; clear hb2)))
  go_ret
  exact ⟨rfl, B2.out⟩

set_option maxRecDepth 100000 in
set_option maxHeartbeats 4000000 in
theorem put_old (g bm : Nat) (n f s dl ks ee wd rh sl cp i : Int) (r lo hi t l0 h0 a0 : Int) (z w : World) (hI : IsT z w g bm n f s dl ks ee wd rh sl cp i) (k : Nat) (M : KM) (hM : KMap w bm k M) (hn : n ≤ 8) (hmay : mayF n i r t = true) (hR : R lo hi) (h : M r = some (l0, h0, a0)) (hlt : t < a0) : Calls Try.prog 25 #[.pointer (some ⟨g, 0, none⟩), .int .i64 r, .agg #[.int .i64 lo, .int .i64 hi], .int .i64 t] w fun en w' => en = .returned (.int .i64 10) ∧ Below w.heap.size w w' := by
  have hmy := of_decide_eq_true hmay
  obtain ⟨r0, r1, r2, t0, t1⟩ := hmy
  have HRW : Aside0 ((Lit.int .i64 r).wf = true) := ⟨(WalkArith.wf_i64 (by omega))⟩
  have QL : Aside0 (∀ W, KMap W bm k M → (Instr.lookup 100 (.map (some bm)) (.int .i64 r) true).run Try.prog W = .ok (.tuple #[.agg #[.int .i64 l0, .int .i64 h0, .int .i64 a0], .bool true]) W) := ⟨fun W hW => by
    have := KMap.look hW r HRW.out
    rw [h] at this
    exact this⟩
  have HI := Aside0.mk hI
  have HM := Aside0.mk hM
  have HMAY := Aside0.mk hmay
  have HR : Aside0 (ival_Right.f lo hi = some true) := ⟨by rw [right_eq, decide_eq_true hR]⟩
  have hb : decide (t < a0) = true := decide_eq_true hlt
  clear hI hM hmay hR h hlt
  go_enter Try.func25, Try.ntmps25
  go_wp2_with (first | (go_at_call 53; go_loud (refine (none_ok g bm n f s dl ks ee wd rh sl cp i z _ (IsT.alloc HI.out _)).mono ?_; rintro en w1 ⟨rfl, e1⟩; rw [e1]; clear e1)) | (go_at_call 54; go_loud (refine (may_any g bm n f s dl ks ee wd rh sl cp i r t z _ (IsT.alloc HI.out _) true HMAY.out).mono ?_; rintro en w1 ⟨rfl, e1⟩; rw [e1]; clear e1)) | (go_at_call 45; go_loud (refine (ival_Right.calls lo hi true _ HR.out).mono ?_; rintro en w2 ⟨rfl, hb2⟩; have J2 : Aside0 (IsT z w2 g bm n f s dl ks ee wd rh sl cp i) := ⟨IsT.below (IsT.alloc HI.out _) hb2⟩; have B2 : Aside0 (Below w.heap.size w w2) := ⟨below_step (below_alloc (Below.refl _ _) _) hb2⟩; have F2 : Aside0 (w2.heap[w.heap.size]? = some (.cells #[.int .i64 lo, .int .i64 hi] 61 (0, 0))) := ⟨blk_below (blk_new _ _) hb2⟩; have M2 : Aside0 (KMap w2 bm k M) := ⟨KMap.below (KMap.alloc HM.out _) hb2⟩; have k11 : w2.cell? ⟨g, 11, none⟩ = some (.map (some bm)) := (blk_cell J2.out.1 11).trans rfl; have hl := QL.out _ M2.out; have p0 : w2.cell? ⟨w.heap.size, 0, none⟩ = some (.int .i64 lo) := (blk_cell F2.out 0).trans rfl; have pf0 : w2.frozen? ⟨w.heap.size, 0, none⟩ = false := blk_frozen F2.out 0; have p1 : w2.cell? ⟨w.heap.size, 1, none⟩ = some (.int .i64 hi) := (blk_cell F2.out 1).trans rfl; have pf1 : w2.frozen? ⟨w.heap.size, 1, none⟩ = false := blk_frozen F2.out 1; clear hb2)))
  go_ret
  exact ⟨rfl, below_alloc B2.out _⟩
theorem IsT.far {z w : World} {g bm : Nat} {n f s dl ks ee wd rh sl cp i : Int} (h : IsT z w g bm n f s dl ks ee wd rh sl cp i) {p : Addr} (hp : g ≠ p.block) (u : Value) : IsT z (w.setCell p u) g bm n f s dl ks ee wd rh sl cp i := ⟨blk_far h.1 hp u, h.2⟩
theorem KMap.setC {w : World} {bm n : Nat} {M : KM} (h : KMap w bm n M) {p : Addr} (hp : bm ≠ p.block) (u : Value) : KMap (w.setCell p u) bm n M :=
  h.kept (row := some p.block) ⟨rfl, rfl, rfl, by simp, fun j hj hne => Below.heap_setCell w p u j (fun e => hne (by rw [e]))⟩ (fun e => hp (by cases e; rfl))
set_option maxRecDepth 100000 in
set_option maxHeartbeats 8000000 in
theorem put_new (g bm : Nat) (n f s dl ks ee wd rh sl cp i : Int) (r lo hi t : Int) (x y e : Int) (z w : World) (hI : IsT z w g bm n f s dl ks ee wd rh sl cp i) (k : Nat) (M : KM) (hM : KMap w bm k M) (hn : n ≤ 8) (hB : Below z.heap.size z w) (hk : k ≤ 100000) (hbm : bm < w.heap.size) (hmay : mayF n i r t = true) (hR : R lo hi) (h : M r = none) (hat : ∀ W, IsT z W g bm n f s dl ks ee wd rh sl cp i → KMap W bm k M → Calls Try.prog 26 #[.pointer (some ⟨g, 0, none⟩), .int .i64 r, .int .i64 t] W fun en w' => en = .returned (.tuple #[.agg #[.int .i64 x, .int .i64 y], .int .i64 e]) ∧ Below W.heap.size W w') (he : e ≠ 0) : Calls Try.prog 25 #[.pointer (some ⟨g, 0, none⟩), .int .i64 r, .agg #[.int .i64 lo, .int .i64 hi], .int .i64 t] w fun en w' => en = .returned (.int .i64 0) ∧ KMap w' bm (k + 1) (fun v => if v = r then some (lo, hi, t) else M v) ∧ w.grownBy w' (some bm) := by
  have hmy := of_decide_eq_true hmay
  obtain ⟨r0, r1, r2, t0, t1⟩ := hmy
  have HRW : Aside0 ((Lit.int .i64 r).wf = true) := ⟨(WalkArith.wf_i64 (by omega))⟩
  have QL : Aside0 (∀ W, KMap W bm k M → (Instr.lookup 100 (.map (some bm)) (.int .i64 r) true).run Try.prog W = .ok (.tuple #[.agg #[.int .i64 0, .int .i64 0, .int .i64 0], .bool false]) W) := ⟨fun W hW => by
    have := KMap.look hW r HRW.out
    rw [h] at this
    exact this⟩
  have HI := Aside0.mk hI
  have HM := Aside0.mk hM
  have HMAY := Aside0.mk hmay
  have HR : Aside0 (ival_Right.f lo hi = some true) := ⟨by rw [right_eq, decide_eq_true hR]⟩
  have HAT := Aside0.mk hat
  have HB := Aside0.mk hB
  have heb : (e == 0) = false := beq_eq_false_iff_ne.2 he
  have HGN : Aside0 (g ≠ w.heap.size) := ⟨Nat.ne_of_lt (blk_lt HI.out.1)⟩
  have HBN : Aside0 (bm ≠ w.heap.size) := ⟨Nat.ne_of_lt hbm⟩
  clear hI hM hmay hR h hat hB he
  go_enter Try.func25, Try.ntmps25
  go_upto_region 14 with (first | (go_at_call 53; go_loud (refine (none_ok g bm n f s dl ks ee wd rh sl cp i z _ (IsT.alloc HI.out _)).mono ?_; rintro en w1 ⟨rfl, e1⟩; rw [e1]; clear e1)) | (go_at_call 54; go_loud (refine (may_any g bm n f s dl ks ee wd rh sl cp i r t z _ (IsT.alloc HI.out _) true HMAY.out).mono ?_; rintro en w1 ⟨rfl, e1⟩; rw [e1]; clear e1)) | (go_at_call 45; go_loud (refine (ival_Right.calls lo hi true _ HR.out).mono ?_; rintro en w2 ⟨rfl, hb2⟩; have J2 : Aside0 (IsT z w2 g bm n f s dl ks ee wd rh sl cp i) := ⟨IsT.below (IsT.alloc HI.out _) hb2⟩; have B2 : Aside0 (Below w.heap.size w w2) := ⟨below_step (below_alloc (Below.refl _ _) _) hb2⟩; have F2 : Aside0 (w2.heap[w.heap.size]? = some (.cells #[.int .i64 lo, .int .i64 hi] 61 (0, 0))) := ⟨blk_below (blk_new _ _) hb2⟩; have M2 : Aside0 (KMap w2 bm k M) := ⟨KMap.below (KMap.alloc HM.out _) hb2⟩; have k11 : w2.cell? ⟨g, 11, none⟩ = some (.map (some bm)) := (blk_cell J2.out.1 11).trans rfl; have hl := QL.out _ M2.out; have p0 : w2.cell? ⟨w.heap.size, 0, none⟩ = some (.int .i64 lo) := (blk_cell F2.out 0).trans rfl; have pf0 : w2.frozen? ⟨w.heap.size, 0, none⟩ = false := blk_frozen F2.out 0; have p1 : w2.cell? ⟨w.heap.size, 1, none⟩ = some (.int .i64 hi) := (blk_cell F2.out 1).trans rfl; have pf1 : w2.frozen? ⟨w.heap.size, 1, none⟩ = false := blk_frozen F2.out 1; clear hb2)) | (go_at_call 26; go_loud (refine (HAT.out _ (IsT.alloc J2.out _) (KMap.alloc M2.out _)).mono ?_; rintro en w3 ⟨rfl, hb3⟩; have J3 : Aside0 (IsT z w3 g bm n f s dl ks ee wd rh sl cp i) := ⟨IsT.below (IsT.alloc J2.out _) hb3⟩; have M3 : Aside0 (KMap w3 bm k M) := ⟨KMap.below (KMap.alloc M2.out _) hb3⟩; have B3 : Aside0 (Below w.heap.size w w3) := ⟨below_step (below_alloc B2.out _) hb3⟩; have F3 : Aside0 (w3.heap[w.heap.size]? = some (.cells #[.int .i64 lo, .int .i64 hi] 61 (0, 0))) := ⟨blk_below (blk_alloc F2.out _) hb3⟩; have s0 : w3.cell? ⟨w.heap.size, 0, none⟩ = some (.int .i64 lo) := (blk_cell F3.out 0).trans rfl; have sf0 : w3.frozen? ⟨w.heap.size, 0, none⟩ = false := blk_frozen F3.out 0; have s1 : w3.cell? ⟨w.heap.size, 1, none⟩ = some (.int .i64 hi) := (blk_cell F3.out 1).trans rfl; have sf1 : w3.frozen? ⟨w.heap.size, 1, none⟩ = false := blk_frozen F3.out 1; have n3 := World.new_ne w3 _ s0; clear hb3)))
  refine wp_gen (fun W => (IsT z W g bm n f s dl ks ee wd rh sl cp i) ∧ KMap W bm k M ∧ W.heap[w.heap.size]? = some (.cells #[.int .i64 lo, .int .i64 hi] 61 (0, 0)) ∧ Below w.heap.size w W) ⟨IsT.alloc J3.out _, KMap.alloc M3.out _, blk_alloc F3.out _, below_alloc B3.out _⟩ ?_
  clear J2 B2 F2 M2 k11 hl p0 pf0 p1 pf1 J3 M3 B3 F3 s0 sf0 s1 sf1 n3
  rintro W ⟨a1, a2, a3, a4⟩
  have d11 : W.cell? ⟨g, 11, none⟩ = some (.map (some bm)) := (blk_cell a1.1 11).trans rfl
  have d0 : W.cell? ⟨w.heap.size, 0, none⟩ = some (.int .i64 lo) := (blk_cell a3 0).trans rfl; have df0 : W.frozen? ⟨w.heap.size, 0, none⟩ = false := blk_frozen a3 0; have d1 : W.cell? ⟨w.heap.size, 1, none⟩ = some (.int .i64 hi) := (blk_cell a3 1).trans rfl; have df1 : W.frozen? ⟨w.heap.size, 1, none⟩ = false := blk_frozen a3 1
  obtain ⟨D, hown, hat⟩ := a2
  have HAT2 := Aside0.mk hat
  have A4 := Aside0.mk a4
  clear a1 a3 a4 hat
  go_still_tail 8, (by kernel_rfl)
  go_wp2_with (first | (at_mapUpdate; refine wpList_mapUpdate_own _ rfl _ _ _ 100 rfl 3 105 law3 Try.underlying100 RK bm k D rfl hown (by unfold maxLen; omega) _ _ _ rfl rfl (keyOf_int_mk Try.underlying3 HRW.out) (enc3 (lo, hi, t)) [] (RK_val (lo, hi, t)) ?_; intro w5 hown5 hgrow5; have M5 := Aside0.mk (KMap.put r (lo, hi, t) HAT2.out hown.isMap hown5); have G5 := Aside0.mk hgrow5; clear hown5 hgrow5))
  go_ret
  exact ⟨rfl, M5.out, grown_then (grown_drew ⟨A4.out.os, A4.out.tape, A4.out.output, A4.out.size, fun j hj _ => A4.out.block j hj⟩) G5.out⟩
set_option maxRecDepth 100000 in
set_option maxHeartbeats 8000000 in
theorem put_gone (g bm : Nat) (n f s dl ks ee wd rh sl cp i : Int) (r lo hi t : Int) (l0 h0 a0 : Int) (x y e : Int) (z w : World) (hI : IsT z w g bm n f s dl ks ee wd rh sl cp i) (k : Nat) (M : KM) (hM : KMap w bm k M) (hn : n ≤ 8) (hB : Below z.heap.size z w) (hk : k ≤ 100000) (hbm : bm < w.heap.size) (hmay : mayF n i r t = true) (hR : R lo hi) (h : M r = some (l0, h0, a0)) (hlt : ¬ t < a0) (hat : ∀ W, IsT z W g bm n f s dl ks ee wd rh sl cp i → KMap W bm k M → Calls Try.prog 26 #[.pointer (some ⟨g, 0, none⟩), .int .i64 r, .int .i64 t] W fun en w' => en = .returned (.tuple #[.agg #[.int .i64 x, .int .i64 y], .int .i64 e]) ∧ Below W.heap.size W w') (he : e ≠ 0) : Calls Try.prog 25 #[.pointer (some ⟨g, 0, none⟩), .int .i64 r, .agg #[.int .i64 lo, .int .i64 hi], .int .i64 t] w fun en w' => en = .returned (.int .i64 0) ∧ KMap w' bm (k + 1) (fun v => if v = r then some (lo, hi, t) else M v) ∧ w.grownBy w' (some bm) := by
  have hmy := of_decide_eq_true hmay
  obtain ⟨r0, r1, r2, t0, t1⟩ := hmy
  have HRW : Aside0 ((Lit.int .i64 r).wf = true) := ⟨(WalkArith.wf_i64 (by omega))⟩
  have QL : Aside0 (∀ W, KMap W bm k M → (Instr.lookup 100 (.map (some bm)) (.int .i64 r) true).run Try.prog W = .ok (.tuple #[.agg #[.int .i64 l0, .int .i64 h0, .int .i64 a0], .bool true]) W) := ⟨fun W hW => by
    have := KMap.look hW r HRW.out
    rw [h] at this
    exact this⟩
  have HI := Aside0.mk hI
  have HM := Aside0.mk hM
  have HMAY := Aside0.mk hmay
  have HR : Aside0 (ival_Right.f lo hi = some true) := ⟨by rw [right_eq, decide_eq_true hR]⟩
  have hb : decide (t < a0) = false := decide_eq_false hlt
  have HAT := Aside0.mk hat
  have HB := Aside0.mk hB
  have heb : (e == 0) = false := beq_eq_false_iff_ne.2 he
  have HGN : Aside0 (g ≠ w.heap.size) := ⟨Nat.ne_of_lt (blk_lt HI.out.1)⟩
  have HBN : Aside0 (bm ≠ w.heap.size) := ⟨Nat.ne_of_lt hbm⟩
  clear hI hM hmay hR h hat hlt hB he
  go_enter Try.func25, Try.ntmps25
  go_upto_region 14 with (first | (go_at_call 53; go_loud (refine (none_ok g bm n f s dl ks ee wd rh sl cp i z _ (IsT.alloc HI.out _)).mono ?_; rintro en w1 ⟨rfl, e1⟩; rw [e1]; clear e1)) | (go_at_call 54; go_loud (refine (may_any g bm n f s dl ks ee wd rh sl cp i r t z _ (IsT.alloc HI.out _) true HMAY.out).mono ?_; rintro en w1 ⟨rfl, e1⟩; rw [e1]; clear e1)) | (go_at_call 45; go_loud (refine (ival_Right.calls lo hi true _ HR.out).mono ?_; rintro en w2 ⟨rfl, hb2⟩; have J2 : Aside0 (IsT z w2 g bm n f s dl ks ee wd rh sl cp i) := ⟨IsT.below (IsT.alloc HI.out _) hb2⟩; have B2 : Aside0 (Below w.heap.size w w2) := ⟨below_step (below_alloc (Below.refl _ _) _) hb2⟩; have F2 : Aside0 (w2.heap[w.heap.size]? = some (.cells #[.int .i64 lo, .int .i64 hi] 61 (0, 0))) := ⟨blk_below (blk_new _ _) hb2⟩; have M2 : Aside0 (KMap w2 bm k M) := ⟨KMap.below (KMap.alloc HM.out _) hb2⟩; have k11 : w2.cell? ⟨g, 11, none⟩ = some (.map (some bm)) := (blk_cell J2.out.1 11).trans rfl; have hl := QL.out _ M2.out; have p0 : w2.cell? ⟨w.heap.size, 0, none⟩ = some (.int .i64 lo) := (blk_cell F2.out 0).trans rfl; have pf0 : w2.frozen? ⟨w.heap.size, 0, none⟩ = false := blk_frozen F2.out 0; have p1 : w2.cell? ⟨w.heap.size, 1, none⟩ = some (.int .i64 hi) := (blk_cell F2.out 1).trans rfl; have pf1 : w2.frozen? ⟨w.heap.size, 1, none⟩ = false := blk_frozen F2.out 1; clear hb2)) | (go_at_call 26; go_loud (refine (HAT.out _ (IsT.alloc J2.out _) (KMap.alloc M2.out _)).mono ?_; rintro en w3 ⟨rfl, hb3⟩; have J3 : Aside0 (IsT z w3 g bm n f s dl ks ee wd rh sl cp i) := ⟨IsT.below (IsT.alloc J2.out _) hb3⟩; have M3 : Aside0 (KMap w3 bm k M) := ⟨KMap.below (KMap.alloc M2.out _) hb3⟩; have B3 : Aside0 (Below w.heap.size w w3) := ⟨below_step (below_alloc B2.out _) hb3⟩; have F3 : Aside0 (w3.heap[w.heap.size]? = some (.cells #[.int .i64 lo, .int .i64 hi] 61 (0, 0))) := ⟨blk_below (blk_alloc F2.out _) hb3⟩; have s0 : w3.cell? ⟨w.heap.size, 0, none⟩ = some (.int .i64 lo) := (blk_cell F3.out 0).trans rfl; have sf0 : w3.frozen? ⟨w.heap.size, 0, none⟩ = false := blk_frozen F3.out 0; have s1 : w3.cell? ⟨w.heap.size, 1, none⟩ = some (.int .i64 hi) := (blk_cell F3.out 1).trans rfl; have sf1 : w3.frozen? ⟨w.heap.size, 1, none⟩ = false := blk_frozen F3.out 1; have n3 := World.new_ne w3 _ s0; clear hb3)))
  refine wp_gen (fun W => (IsT z W g bm n f s dl ks ee wd rh sl cp i) ∧ KMap W bm k M ∧ W.heap[w.heap.size]? = some (.cells #[.int .i64 lo, .int .i64 hi] 61 (0, 0)) ∧ Below w.heap.size w W) ⟨IsT.alloc J3.out _, KMap.alloc M3.out _, blk_alloc F3.out _, below_alloc B3.out _⟩ ?_
  clear J2 B2 F2 M2 k11 hl p0 pf0 p1 pf1 J3 M3 B3 F3 s0 sf0 s1 sf1 n3
  rintro W ⟨a1, a2, a3, a4⟩
  have d11 : W.cell? ⟨g, 11, none⟩ = some (.map (some bm)) := (blk_cell a1.1 11).trans rfl
  have d0 : W.cell? ⟨w.heap.size, 0, none⟩ = some (.int .i64 lo) := (blk_cell a3 0).trans rfl; have df0 : W.frozen? ⟨w.heap.size, 0, none⟩ = false := blk_frozen a3 0; have d1 : W.cell? ⟨w.heap.size, 1, none⟩ = some (.int .i64 hi) := (blk_cell a3 1).trans rfl; have df1 : W.frozen? ⟨w.heap.size, 1, none⟩ = false := blk_frozen a3 1
  obtain ⟨D, hown, hat⟩ := a2
  have HAT2 := Aside0.mk hat
  have A4 := Aside0.mk a4
  clear a1 a3 a4 hat
  go_still_tail 8, (by kernel_rfl)
  go_wp2_with (first | (at_mapUpdate; refine wpList_mapUpdate_own _ rfl _ _ _ 100 rfl 3 105 law3 Try.underlying100 RK bm k D rfl hown (by unfold maxLen; omega) _ _ _ rfl rfl (keyOf_int_mk Try.underlying3 HRW.out) (enc3 (lo, hi, t)) [] (RK_val (lo, hi, t)) ?_; intro w5 hown5 hgrow5; have M5 := Aside0.mk (KMap.put r (lo, hi, t) HAT2.out hown.isMap hown5); have G5 := Aside0.mk hgrow5; clear hown5 hgrow5))
  go_ret
  exact ⟨rfl, M5.out, grown_then (grown_drew ⟨A4.out.os, A4.out.tape, A4.out.output, A4.out.size, fun j hj _ => A4.out.block j hj⟩) G5.out⟩
set_option maxRecDepth 100000 in
set_option maxHeartbeats 8000000 in
theorem put_apart (g bm : Nat) (n f s dl ks ee wd rh sl cp i : Int) (r lo hi t : Int) (l0 h0 a0 : Int) (x y e : Int) (p q e2 : Int) (z w : World) (hI : IsT z w g bm n f s dl ks ee wd rh sl cp i) (k : Nat) (M : KM) (hM : KMap w bm k M) (hn : n ≤ 8) (hB : Below z.heap.size z w) (hk : k ≤ 100000) (hbm : bm < w.heap.size) (hmay : mayF n i r t = true) (hR : R lo hi) (h : M r = some (l0, h0, a0)) (hlt : ¬ t < a0) (hat : ∀ W, IsT z W g bm n f s dl ks ee wd rh sl cp i → KMap W bm k M → Calls Try.prog 26 #[.pointer (some ⟨g, 0, none⟩), .int .i64 r, .int .i64 t] W fun en w' => en = .returned (.tuple #[.agg #[.int .i64 x, .int .i64 y], .int .i64 0]) ∧ Below W.heap.size W w') (hme : ival_Meet.f x y lo hi = some (p, q, e2)) (he2 : e2 ≠ 0) : Calls Try.prog 25 #[.pointer (some ⟨g, 0, none⟩), .int .i64 r, .agg #[.int .i64 lo, .int .i64 hi], .int .i64 t] w fun en w' => en = .returned (.int .i64 0) ∧ KMap w' bm (k + 1) (fun v => if v = r then some (lo, hi, t) else M v) ∧ w.grownBy w' (some bm) := by
  have hmy := of_decide_eq_true hmay
  obtain ⟨r0, r1, r2, t0, t1⟩ := hmy
  have HRW : Aside0 ((Lit.int .i64 r).wf = true) := ⟨(WalkArith.wf_i64 (by omega))⟩
  have QL : Aside0 (∀ W, KMap W bm k M → (Instr.lookup 100 (.map (some bm)) (.int .i64 r) true).run Try.prog W = .ok (.tuple #[.agg #[.int .i64 l0, .int .i64 h0, .int .i64 a0], .bool true]) W) := ⟨fun W hW => by
    have := KMap.look hW r HRW.out
    rw [h] at this
    exact this⟩
  have HI := Aside0.mk hI
  have HM := Aside0.mk hM
  have HMAY := Aside0.mk hmay
  have HR : Aside0 (ival_Right.f lo hi = some true) := ⟨by rw [right_eq, decide_eq_true hR]⟩
  have hb : decide (t < a0) = false := decide_eq_false hlt
  have HAT := Aside0.mk hat
  have HB := Aside0.mk hB
  have HME := Aside0.mk hme
  have he2b : (e2 == 0) = false := beq_eq_false_iff_ne.2 he2
  have HGN : Aside0 (g ≠ w.heap.size) := ⟨Nat.ne_of_lt (blk_lt HI.out.1)⟩
  have HBN : Aside0 (bm ≠ w.heap.size) := ⟨Nat.ne_of_lt hbm⟩
  clear hI hM hmay hR h hat hlt hB hme he2
  go_enter Try.func25, Try.ntmps25
  go_upto_region 14 with (first | (go_at_call 53; go_loud (refine (none_ok g bm n f s dl ks ee wd rh sl cp i z _ (IsT.alloc HI.out _)).mono ?_; rintro en w1 ⟨rfl, e1⟩; rw [e1]; clear e1)) | (go_at_call 54; go_loud (refine (may_any g bm n f s dl ks ee wd rh sl cp i r t z _ (IsT.alloc HI.out _) true HMAY.out).mono ?_; rintro en w1 ⟨rfl, e1⟩; rw [e1]; clear e1)) | (go_at_call 45; go_loud (refine (ival_Right.calls lo hi true _ HR.out).mono ?_; rintro en w2 ⟨rfl, hb2⟩; have J2 : Aside0 (IsT z w2 g bm n f s dl ks ee wd rh sl cp i) := ⟨IsT.below (IsT.alloc HI.out _) hb2⟩; have B2 : Aside0 (Below w.heap.size w w2) := ⟨below_step (below_alloc (Below.refl _ _) _) hb2⟩; have F2 : Aside0 (w2.heap[w.heap.size]? = some (.cells #[.int .i64 lo, .int .i64 hi] 61 (0, 0))) := ⟨blk_below (blk_new _ _) hb2⟩; have M2 : Aside0 (KMap w2 bm k M) := ⟨KMap.below (KMap.alloc HM.out _) hb2⟩; have k11 : w2.cell? ⟨g, 11, none⟩ = some (.map (some bm)) := (blk_cell J2.out.1 11).trans rfl; have hl := QL.out _ M2.out; have p0 : w2.cell? ⟨w.heap.size, 0, none⟩ = some (.int .i64 lo) := (blk_cell F2.out 0).trans rfl; have pf0 : w2.frozen? ⟨w.heap.size, 0, none⟩ = false := blk_frozen F2.out 0; have p1 : w2.cell? ⟨w.heap.size, 1, none⟩ = some (.int .i64 hi) := (blk_cell F2.out 1).trans rfl; have pf1 : w2.frozen? ⟨w.heap.size, 1, none⟩ = false := blk_frozen F2.out 1; clear hb2)) | (go_at_call 26; go_loud (refine (HAT.out _ (IsT.alloc J2.out _) (KMap.alloc M2.out _)).mono ?_; rintro en w3 ⟨rfl, hb3⟩; have J3 : Aside0 (IsT z w3 g bm n f s dl ks ee wd rh sl cp i) := ⟨IsT.below (IsT.alloc J2.out _) hb3⟩; have M3 : Aside0 (KMap w3 bm k M) := ⟨KMap.below (KMap.alloc M2.out _) hb3⟩; have B3 : Aside0 (Below w.heap.size w w3) := ⟨below_step (below_alloc B2.out _) hb3⟩; have F3 : Aside0 (w3.heap[w.heap.size]? = some (.cells #[.int .i64 lo, .int .i64 hi] 61 (0, 0))) := ⟨blk_below (blk_alloc F2.out _) hb3⟩; have s0 : w3.cell? ⟨w.heap.size, 0, none⟩ = some (.int .i64 lo) := (blk_cell F3.out 0).trans rfl; have sf0 : w3.frozen? ⟨w.heap.size, 0, none⟩ = false := blk_frozen F3.out 0; have s1 : w3.cell? ⟨w.heap.size, 1, none⟩ = some (.int .i64 hi) := (blk_cell F3.out 1).trans rfl; have sf1 : w3.frozen? ⟨w.heap.size, 1, none⟩ = false := blk_frozen F3.out 1; have n3 := World.new_ne w3 _ s0; clear hb3)) | (go_at_call 55; go_loud (refine (ival_Meet.calls x y lo hi p q e2 _ HME.out).mono ?_; rintro en w4 ⟨rfl, hb4⟩; have J4 : Aside0 (IsT z w4 g bm n f s dl ks ee wd rh sl cp i) := ⟨IsT.below (IsT.alloc J3.out _) hb4⟩; have M4 : Aside0 (KMap w4 bm k M) := ⟨KMap.below (KMap.alloc M3.out _) hb4⟩; have B4 : Aside0 (Below w.heap.size w w4) := ⟨below_step (below_alloc B3.out _) hb4⟩; have F4 : Aside0 (w4.heap[w.heap.size]? = some (.cells #[.int .i64 lo, .int .i64 hi] 61 (0, 0))) := ⟨blk_below (blk_alloc F3.out _) hb4⟩; have u0 : w4.cell? ⟨w.heap.size, 0, none⟩ = some (.int .i64 lo) := (blk_cell F4.out 0).trans rfl; have uf0 : w4.frozen? ⟨w.heap.size, 0, none⟩ = false := blk_frozen F4.out 0; have u1 : w4.cell? ⟨w.heap.size, 1, none⟩ = some (.int .i64 hi) := (blk_cell F4.out 1).trans rfl; have uf1 : w4.frozen? ⟨w.heap.size, 1, none⟩ = false := blk_frozen F4.out 1; have n4 := World.new_ne w4 _ u0; clear hb4)))
  refine wp_gen (fun W => (IsT z W g bm n f s dl ks ee wd rh sl cp i) ∧ KMap W bm k M ∧ W.heap[w.heap.size]? = some (.cells #[.int .i64 lo, .int .i64 hi] 61 (0, 0)) ∧ Below w.heap.size w W) ⟨IsT.alloc J4.out _, KMap.alloc M4.out _, blk_alloc F4.out _, below_alloc B4.out _⟩ ?_
  clear J2 B2 F2 M2 k11 hl p0 pf0 p1 pf1 J3 M3 B3 F3 s0 sf0 s1 sf1 n3
  rintro W ⟨a1, a2, a3, a4⟩
  have d11 : W.cell? ⟨g, 11, none⟩ = some (.map (some bm)) := (blk_cell a1.1 11).trans rfl
  have d0 : W.cell? ⟨w.heap.size, 0, none⟩ = some (.int .i64 lo) := (blk_cell a3 0).trans rfl; have df0 : W.frozen? ⟨w.heap.size, 0, none⟩ = false := blk_frozen a3 0; have d1 : W.cell? ⟨w.heap.size, 1, none⟩ = some (.int .i64 hi) := (blk_cell a3 1).trans rfl; have df1 : W.frozen? ⟨w.heap.size, 1, none⟩ = false := blk_frozen a3 1
  obtain ⟨D, hown, hat⟩ := a2
  have HAT2 := Aside0.mk hat
  have A4 := Aside0.mk a4
  clear a1 a3 a4 hat
  go_still_tail 8, (by kernel_rfl)
  go_wp2_with (first | (at_mapUpdate; refine wpList_mapUpdate_own _ rfl _ _ _ 100 rfl 3 105 law3 Try.underlying100 RK bm k D rfl hown (by unfold maxLen; omega) _ _ _ rfl rfl (keyOf_int_mk Try.underlying3 HRW.out) (enc3 (lo, hi, t)) [] (RK_val (lo, hi, t)) ?_; intro w5 hown5 hgrow5; have M5 := Aside0.mk (KMap.put r (lo, hi, t) HAT2.out hown.isMap hown5); have G5 := Aside0.mk hgrow5; clear hown5 hgrow5))
  go_ret
  exact ⟨rfl, M5.out, grown_then (grown_drew ⟨A4.out.os, A4.out.tape, A4.out.output, A4.out.size, fun j hj _ => A4.out.block j hj⟩) G5.out⟩
set_option maxRecDepth 100000 in
set_option maxHeartbeats 8000000 in
theorem put_met (g bm : Nat) (n f s dl ks ee wd rh sl cp i : Int) (r lo hi t : Int) (l0 h0 a0 : Int) (x y e : Int) (p q e2 : Int) (z w : World) (hI : IsT z w g bm n f s dl ks ee wd rh sl cp i) (k : Nat) (M : KM) (hM : KMap w bm k M) (hn : n ≤ 8) (hB : Below z.heap.size z w) (hk : k ≤ 100000) (hbm : bm < w.heap.size) (hmay : mayF n i r t = true) (hR : R lo hi) (h : M r = some (l0, h0, a0)) (hlt : ¬ t < a0) (hat : ∀ W, IsT z W g bm n f s dl ks ee wd rh sl cp i → KMap W bm k M → Calls Try.prog 26 #[.pointer (some ⟨g, 0, none⟩), .int .i64 r, .int .i64 t] W fun en w' => en = .returned (.tuple #[.agg #[.int .i64 x, .int .i64 y], .int .i64 0]) ∧ Below W.heap.size W w') (hme : ival_Meet.f x y lo hi = some (p, q, 0)) : Calls Try.prog 25 #[.pointer (some ⟨g, 0, none⟩), .int .i64 r, .agg #[.int .i64 lo, .int .i64 hi], .int .i64 t] w fun en w' => en = .returned (.int .i64 0) ∧ KMap w' bm (k + 1) (fun v => if v = r then some (p, q, t) else M v) ∧ w.grownBy w' (some bm) := by
  have hmy := of_decide_eq_true hmay
  obtain ⟨r0, r1, r2, t0, t1⟩ := hmy
  have HRW : Aside0 ((Lit.int .i64 r).wf = true) := ⟨(WalkArith.wf_i64 (by omega))⟩
  have QL : Aside0 (∀ W, KMap W bm k M → (Instr.lookup 100 (.map (some bm)) (.int .i64 r) true).run Try.prog W = .ok (.tuple #[.agg #[.int .i64 l0, .int .i64 h0, .int .i64 a0], .bool true]) W) := ⟨fun W hW => by
    have := KMap.look hW r HRW.out
    rw [h] at this
    exact this⟩
  have HI := Aside0.mk hI
  have HM := Aside0.mk hM
  have HMAY := Aside0.mk hmay
  have HR : Aside0 (ival_Right.f lo hi = some true) := ⟨by rw [right_eq, decide_eq_true hR]⟩
  have hb : decide (t < a0) = false := decide_eq_false hlt
  have HAT := Aside0.mk hat
  have HB := Aside0.mk hB
  have HME := Aside0.mk hme
  have HGN : Aside0 (g ≠ w.heap.size) := ⟨Nat.ne_of_lt (blk_lt HI.out.1)⟩
  have HBN : Aside0 (bm ≠ w.heap.size) := ⟨Nat.ne_of_lt hbm⟩
  clear hI hM hmay hR h hat hlt hB hme
  go_enter Try.func25, Try.ntmps25
  go_upto_region 14 with (first | (go_at_call 53; go_loud (refine (none_ok g bm n f s dl ks ee wd rh sl cp i z _ (IsT.alloc HI.out _)).mono ?_; rintro en w1 ⟨rfl, e1⟩; rw [e1]; clear e1)) | (go_at_call 54; go_loud (refine (may_any g bm n f s dl ks ee wd rh sl cp i r t z _ (IsT.alloc HI.out _) true HMAY.out).mono ?_; rintro en w1 ⟨rfl, e1⟩; rw [e1]; clear e1)) | (go_at_call 45; go_loud (refine (ival_Right.calls lo hi true _ HR.out).mono ?_; rintro en w2 ⟨rfl, hb2⟩; have J2 : Aside0 (IsT z w2 g bm n f s dl ks ee wd rh sl cp i) := ⟨IsT.below (IsT.alloc HI.out _) hb2⟩; have B2 : Aside0 (Below w.heap.size w w2) := ⟨below_step (below_alloc (Below.refl _ _) _) hb2⟩; have F2 : Aside0 (w2.heap[w.heap.size]? = some (.cells #[.int .i64 lo, .int .i64 hi] 61 (0, 0))) := ⟨blk_below (blk_new _ _) hb2⟩; have M2 : Aside0 (KMap w2 bm k M) := ⟨KMap.below (KMap.alloc HM.out _) hb2⟩; have k11 : w2.cell? ⟨g, 11, none⟩ = some (.map (some bm)) := (blk_cell J2.out.1 11).trans rfl; have hl := QL.out _ M2.out; have p0 : w2.cell? ⟨w.heap.size, 0, none⟩ = some (.int .i64 lo) := (blk_cell F2.out 0).trans rfl; have pf0 : w2.frozen? ⟨w.heap.size, 0, none⟩ = false := blk_frozen F2.out 0; have p1 : w2.cell? ⟨w.heap.size, 1, none⟩ = some (.int .i64 hi) := (blk_cell F2.out 1).trans rfl; have pf1 : w2.frozen? ⟨w.heap.size, 1, none⟩ = false := blk_frozen F2.out 1; clear hb2)) | (go_at_call 26; go_loud (refine (HAT.out _ (IsT.alloc J2.out _) (KMap.alloc M2.out _)).mono ?_; rintro en w3 ⟨rfl, hb3⟩; have J3 : Aside0 (IsT z w3 g bm n f s dl ks ee wd rh sl cp i) := ⟨IsT.below (IsT.alloc J2.out _) hb3⟩; have M3 : Aside0 (KMap w3 bm k M) := ⟨KMap.below (KMap.alloc M2.out _) hb3⟩; have B3 : Aside0 (Below w.heap.size w w3) := ⟨below_step (below_alloc B2.out _) hb3⟩; have F3 : Aside0 (w3.heap[w.heap.size]? = some (.cells #[.int .i64 lo, .int .i64 hi] 61 (0, 0))) := ⟨blk_below (blk_alloc F2.out _) hb3⟩; have s0 : w3.cell? ⟨w.heap.size, 0, none⟩ = some (.int .i64 lo) := (blk_cell F3.out 0).trans rfl; have sf0 : w3.frozen? ⟨w.heap.size, 0, none⟩ = false := blk_frozen F3.out 0; have s1 : w3.cell? ⟨w.heap.size, 1, none⟩ = some (.int .i64 hi) := (blk_cell F3.out 1).trans rfl; have sf1 : w3.frozen? ⟨w.heap.size, 1, none⟩ = false := blk_frozen F3.out 1; have n3 := World.new_ne w3 _ s0; clear hb3)) | (go_at_call 55; go_loud (refine (ival_Meet.calls x y lo hi p q 0 _ HME.out).mono ?_; rintro en w4 ⟨rfl, hb4⟩; have J4 : Aside0 (IsT z w4 g bm n f s dl ks ee wd rh sl cp i) := ⟨IsT.below (IsT.alloc J3.out _) hb4⟩; have M4 : Aside0 (KMap w4 bm k M) := ⟨KMap.below (KMap.alloc M3.out _) hb4⟩; have B4 : Aside0 (Below w.heap.size w w4) := ⟨below_step (below_alloc B3.out _) hb4⟩; have F4 : Aside0 (w4.heap[w.heap.size]? = some (.cells #[.int .i64 lo, .int .i64 hi] 61 (0, 0))) := ⟨blk_below (blk_alloc F3.out _) hb4⟩; have u0 : w4.cell? ⟨w.heap.size, 0, none⟩ = some (.int .i64 lo) := (blk_cell F4.out 0).trans rfl; have uf0 : w4.frozen? ⟨w.heap.size, 0, none⟩ = false := blk_frozen F4.out 0; have u1 : w4.cell? ⟨w.heap.size, 1, none⟩ = some (.int .i64 hi) := (blk_cell F4.out 1).trans rfl; have uf1 : w4.frozen? ⟨w.heap.size, 1, none⟩ = false := blk_frozen F4.out 1; have n4 := World.new_ne w4 _ u0; clear hb4)))
  refine wp_gen (fun W => (IsT z W g bm n f s dl ks ee wd rh sl cp i) ∧ KMap W bm k M ∧ W.heap[w.heap.size]? = some (.cells #[.int .i64 p, .int .i64 q] 61 (0, 0)) ∧ Below w.heap.size w W) ⟨IsT.far (IsT.far (IsT.alloc J4.out _) HGN.out _) HGN.out _, KMap.setC (KMap.setC (KMap.alloc M4.out _) HBN.out _) HBN.out _, blk_put (cs := #[.int .i64 p, .int .i64 hi]) (blk_put (cs := #[.int .i64 lo, .int .i64 hi]) (blk_alloc F4.out _) 0 _ rfl) 1 _ rfl, below_set (below_set (below_alloc B4.out _) (Nat.le_refl _)) (Nat.le_refl _)⟩ ?_
  clear J2 B2 F2 M2 k11 hl p0 pf0 p1 pf1 J3 M3 B3 F3 s0 sf0 s1 sf1 n3
  rintro W ⟨a1, a2, a3, a4⟩
  have d11 : W.cell? ⟨g, 11, none⟩ = some (.map (some bm)) := (blk_cell a1.1 11).trans rfl
  have d0 : W.cell? ⟨w.heap.size, 0, none⟩ = some (.int .i64 p) := (blk_cell a3 0).trans rfl; have df0 : W.frozen? ⟨w.heap.size, 0, none⟩ = false := blk_frozen a3 0; have d1 : W.cell? ⟨w.heap.size, 1, none⟩ = some (.int .i64 q) := (blk_cell a3 1).trans rfl; have df1 : W.frozen? ⟨w.heap.size, 1, none⟩ = false := blk_frozen a3 1
  obtain ⟨D, hown, hat⟩ := a2
  have HAT2 := Aside0.mk hat
  have A4 := Aside0.mk a4
  clear a1 a3 a4 hat
  go_still_tail 8, (by kernel_rfl)
  go_wp2_with (first | (at_mapUpdate; refine wpList_mapUpdate_own _ rfl _ _ _ 100 rfl 3 105 law3 Try.underlying100 RK bm k D rfl hown (by unfold maxLen; omega) _ _ _ rfl rfl (keyOf_int_mk Try.underlying3 HRW.out) (enc3 (p, q, t)) [] (RK_val (p, q, t)) ?_; intro w5 hown5 hgrow5; have M5 := Aside0.mk (KMap.put r (p, q, t) HAT2.out hown.isMap hown5); have G5 := Aside0.mk hgrow5; clear hown5 hgrow5))
  go_ret
  exact ⟨rfl, M5.out, grown_then (grown_drew ⟨A4.out.os, A4.out.tape, A4.out.output, A4.out.size, fun j hj _ => A4.out.block j hj⟩) G5.out⟩
end Go.Proofs.Ytfaikkhnlioajaa.Br5
