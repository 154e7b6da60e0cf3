/- What is put, by the reference. -/
import Derived.Test.YtfaikkhnlioajaaProg
import Derived.Below
import Derived.Deep.Draws
import Derived.Deep.AppendLies
import Derived.Maps.AppendAt
import Derived.OwnWalk
import Derived.Laws.BytesArg
import Derived.Laws.MakeOwn
import Derived.Laws.OwnMore
import Derived.Deep.OwnRows
import Derived.Tactics
import Derived.Lib.ConvBytes
import Derived.Laws.Slices
import Derived.WalkKit
import Derived.KernelRfl
import Derived.RowKit3
import Derived.Deep.LoopGhost
import Derived.Deep.QuietTactic
import Derived.BigQuiet
import Derived.WideLaws
import Derived.Deep.DeepCutAuto
import Derived.Deep.CutBlock
import Derived.Deep.RegionHeld3
import Derived.Laws.Rows
import Derived.Lib.AppendStr
import Derived.ArgAppend
import Derived.Laws.IdiomCopy
import Derived.OrdersHeld
import Derived.Laws.BitsLemmas
import Derived.RowKit
import Derived.RegionTactic
import Derived.ChangeAlike
import Derived.Outline
import Derived.LoopTactic
import Derived.WalkSpells
import Derived.WalkLawsBesides
import Derived.Lib.Hide
import Derived.StillTailTactics
import Derived.Deep.RegionWith
import Derived.Deep.RegionLaw
import Derived.Deep.DeepFit
import Derived.Deep.DeepMust
import Derived.Test.YtfaikkhnlioajaaWWords
import Derived.Test.YtfaikkhnlioajaaWLast
import Derived.Test.YtfaikkhnlioajaaWTab
import Derived.Test.YtfaikkhnlioajaaWFour
import Derived.Test.YtfaikkhnlioajaaWQPut
import Derived.Test.YtfaikkhnlioajaaWApart
import Derived.Test.YtfaikkhnlioajaaWArr
import Derived.Test.YtfaikkhnlioajaaWZeros
import Derived.Test.YtfaikkhnlioajaaWFoot
import Derived.Test.YtfaikkhnlioajaaWKept
import Derived.Test.YtfaikkhnlioajaaWShare
import Derived.Test.YtfaikkhnlioajaaWN
import Derived.Test.YtfaikkhnlioajaaWFootNe
import Derived.Test.YtfaikkhnlioajaaWAt
import Derived.Test.YtfaikkhnlioajaaWEqStruct
import Derived.Test.YtfaikkhnlioajaaWRepsOne
import Derived.Test.YtfaikkhnlioajaaWInv
import Derived.Test.YtfaikkhnlioajaaWInvWords
import Derived.Test.YtfaikkhnlioajaaWGuard
import Derived.Test.YtfaikkhnlioajaaWNEv
import Derived.Test.YtfaikkhnlioajaaWMore
import Derived.Test.YtfaikkhnlioajaaRe
import Derived.Test.YtfaikkhnlioajaaBr6
namespace Go.Proofs.Ytfaikkhnlioajaa.Rp
open Go.RowKit Go.Proofs.YtfaikkhnlioajaaW.PrintWords Go.Proofs.YtfaikkhnlioajaaW.PrintLast Go.Proofs.YtfaikkhnlioajaaW.PrintMore 
attribute [local go_sem] max2_int min2_int max_two min_two max_three min_three max_four min_four
set_option linter.unusedVariables false
set_option linter.unusedSimpArgs false
open Go.Proofs.Ytfaikkhnlioajaa.QBase Go.Proofs.Ytfaikkhnlioajaa.Sch Go.Proofs.Ytfaikkhnlioajaa.Plc Go.Proofs.Ytfaikkhnlioajaa.Gd1 Go.Proofs.Ytfaikkhnlioajaa.Gd3 Go.Proofs.Ytfaikkhnlioajaa.Gd4 Go.Proofs.Ytfaikkhnlioajaa.BrP Go.Proofs.Ytfaikkhnlioajaa.Br1 Go.Proofs.Ytfaikkhnlioajaa.Br2 Go.Proofs.Ytfaikkhnlioajaa.Br4 Go.Proofs.Ytfaikkhnlioajaa.Ra Go.Proofs.Ytfaikkhnlioajaa.Rb Go.Proofs.Ytfaikkhnlioajaa.Rc Go.Proofs.Ytfaikkhnlioajaa.Re Go.Proofs.Ytfaikkhnlioajaa.Br5 Go.Proofs.Ytfaikkhnlioajaa.Br6 Go.Maps
attribute [local go_sem] cellS1 frozenS1 cellS2 frozenS2 cellS3 frozenS3 cellS4 frozenS4 cellS5 frozenS5 cellS6 frozenS6

set_option maxRecDepth 100000 in
set_option maxHeartbeats 4000000 in
theorem rput_bad (h lb : Nat) (n f s dl ks ee wd rh sl cp i : Int) (r lo hi t : Int) (z w : World) (M : KM) (hI : IsRf z w h lb n f s dl ks ee wd rh sl cp i M) (hmay : mayF n i r t = false) : Calls Try.prog 35 #[.pointer (some ⟨h, 0, none⟩), .int .i64 r, .agg #[.int .i64 lo, .int .i64 hi], .int .i64 t] w fun en w' => en = .returned (.int .i64 1) ∧ Below w.heap.size w w' := by
  have HI := Aside0.mk hI
  have HMAY := Aside0.mk hmay
  clear hI hmay
  go_enter Try.func35, Try.ntmps35
  go_wp2_with (first | (go_at_call 59; go_loud (refine (rmay_any h lb n f s dl ks ee wd rh sl cp i r t z _ M (IsRf.alloc HI.out _) false HMAY.out).mono ?_; rintro en w1 ⟨rfl, e1⟩; rw [e1]; clear e1)))
  go_ret
  exact ⟨rfl, below_alloc (Below.refl _ _) _⟩
set_option maxRecDepth 100000 in
set_option maxHeartbeats 4000000 in
theorem rput_form (h lb : Nat) (n f s dl ks ee wd rh sl cp i : Int) (r lo hi t : Int) (z w : World) (M : KM) (hI : IsRf z w h lb n f s dl ks ee wd rh sl cp i M) (hmay : mayF n i r t = true) (hR : ¬ R lo hi) : Calls Try.prog 35 #[.pointer (some ⟨h, 0, none⟩), .int .i64 r, .agg #[.int .i64 lo, .int .i64 hi], .int .i64 t] w fun en w' => en = .returned (.int .i64 1) ∧ Below w.heap.size w w' := by
  have HI := Aside0.mk hI
  have HMAY := Aside0.mk hmay
  have HR : Aside0 (carillonref08_Right.f lo hi = some false) := ⟨by rw [rright_eq, decide_eq_false hR]⟩
  clear hI hmay hR
  go_enter Try.func35, Try.ntmps35
  go_wp2_with (first | (go_at_call 59; go_loud (refine (rmay_any h lb n f s dl ks ee wd rh sl cp i r t z _ M (IsRf.alloc HI.out _) true HMAY.out).mono ?_; rintro en w1 ⟨rfl, e1⟩; rw [e1]; clear e1)) | (go_at_call 60; go_loud (refine (carillonref08_Right.calls lo hi false _ HR.out).mono ?_; rintro en w2 ⟨rfl, hb2⟩; have J2 : Aside0 (IsRf z w2 h lb n f s dl ks ee wd rh sl cp i M) := ⟨IsRf.below (IsRf.alloc HI.out _) hb2⟩; have B2 : Aside0 (Below w.heap.size w w2) := ⟨below_step (below_alloc (Below.refl _ _) _) hb2⟩; have F2 : Aside0 (w2.heap[w.heap.size]? = some (.cells #[.int .i64 lo, .int .i64 hi] 61 (0, 0))) := ⟨blk_below (blk_new _ _) hb2⟩; clear hb2)))
  go_ret
  exact ⟨rfl, B2.out⟩

set_option maxRecDepth 100000 in
set_option maxHeartbeats 4000000 in
theorem rput_old (h lb : Nat) (n f s dl ks ee wd rh sl cp i : Int) (r lo hi t l0 h0 a0 : Int) (z w : World) (M : KM) (hI : IsRf z w h lb n f s dl ks ee wd rh sl cp i M) (hmay : mayF n i r t = true) (hR : R lo hi) (hm : M r = some (l0, h0, a0)) (hlt : t < a0) : Calls Try.prog 35 #[.pointer (some ⟨h, 0, none⟩), .int .i64 r, .agg #[.int .i64 lo, .int .i64 hi], .int .i64 t] w fun en w' => en = .returned (.int .i64 10) ∧ Below w.heap.size w w' := by
  have hmy := of_decide_eq_true hmay
  obtain ⟨r0, r1, r2, t0, t1⟩ := hmy
  have r3 : r < (n.toNat : Int) := by omega
  have hrn : r.toNat < n.toNat := by omega
  have EL : Aside0 (∀ W, IsRf z W h lb n f s dl ks ee wd rh sl cp i M → W.cell? ⟨lb, r.toNat * 4, none⟩ = some (.bool true) ∧ W.cell? ⟨lb, r.toNat * 4 + 1, none⟩ = some (.int .i64 l0) ∧ W.cell? ⟨lb, r.toNat * 4 + 2, none⟩ = some (.int .i64 h0) ∧ W.cell? ⟨lb, r.toNat * 4 + 3, none⟩ = some (.int .i64 a0) ∧ ∀ c, W.frozen? ⟨lb, c, none⟩ = false) := ⟨fun W hW => by
    have g0 := hW.at r.toNat hrn 0 (by omega)
    have g1 := hW.at r.toNat hrn 1 (by omega)
    have g2 := hW.at r.toNat hrn 2 (by omega)
    have g3 := hW.at r.toNat hrn 3 (by omega)
    rw [Int.toNat_of_nonneg r0, hm] at g0 g1 g2 g3
    exact ⟨g0, g1, g2, g3, fun c => blk_frozen hW.2.1 c⟩⟩
  have HRN := Aside0.mk hrn
  have HI := Aside0.mk hI
  have HMAY := Aside0.mk hmay
  have HR : Aside0 (carillonref08_Right.f lo hi = some true) := ⟨by rw [rright_eq, decide_eq_true hR]⟩
  have hb : decide (t < a0) = true := decide_eq_true hlt
  clear hI hmay hR hm hlt hrn
  go_enter Try.func35, Try.ntmps35
  go_wp2_with (first | (go_at_call 59; go_loud (refine (rmay_any h lb n f s dl ks ee wd rh sl cp i r t z _ M (IsRf.alloc HI.out _) true HMAY.out).mono ?_; rintro en w1 ⟨rfl, e1⟩; rw [e1]; clear e1)) | (go_at_call 60; go_loud (refine (carillonref08_Right.calls lo hi true _ HR.out).mono ?_; rintro en w2 ⟨rfl, hb2⟩; have J2 : Aside0 (IsRf z w2 h lb n f s dl ks ee wd rh sl cp i M) := ⟨IsRf.below (IsRf.alloc HI.out _) hb2⟩; have B2 : Aside0 (Below w.heap.size w w2) := ⟨below_step (below_alloc (Below.refl _ _) _) hb2⟩; have F2 : Aside0 (w2.heap[w.heap.size]? = some (.cells #[.int .i64 lo, .int .i64 hi] 61 (0, 0))) := ⟨blk_below (blk_new _ _) hb2⟩; have k11 : w2.cell? ⟨h, 11, none⟩ = some (.slice (some ⟨lb, 0, none⟩) n.toNat n.toNat) := (blk_cell J2.out.1 11).trans rfl; obtain ⟨e0, e1, e2, e3, ef⟩ := EL.out _ J2.out; have p0 : w2.cell? ⟨w.heap.size, 0, none⟩ = some (.int .i64 lo) := (blk_cell F2.out 0).trans rfl; have pf0 : w2.frozen? ⟨w.heap.size, 0, none⟩ = false := blk_frozen F2.out 0; have p1 : w2.cell? ⟨w.heap.size, 1, none⟩ = some (.int .i64 hi) := (blk_cell F2.out 1).trans rfl; have pf1 : w2.frozen? ⟨w.heap.size, 1, none⟩ = false := blk_frozen F2.out 1; clear hb2)))
  go_ret
  exact ⟨rfl, B2.out⟩
set_option maxRecDepth 100000 in
set_option maxHeartbeats 8000000 in
theorem rput_new (h lb : Nat) (n f s dl ks ee wd rh sl cp i : Int) (r lo hi t : Int) (x y e : Int) (z w : World) (M : KM) (hI : IsRf z w h lb n f s dl ks ee wd rh sl cp i M) (hB : Below z.heap.size z w) (hmay : mayF n i r t = true) (hR : R lo hi) (hm : M r = none) (hat : ∀ W, IsRf z W h lb n f s dl ks ee wd rh sl cp i M → Calls Try.prog 36 #[.pointer (some ⟨h, 0, none⟩), .int .i64 r, .int .i64 t] W fun en w' => en = .returned (.tuple #[.agg #[.int .i64 x, .int .i64 y], .int .i64 e]) ∧ Below W.heap.size W w') (he : e ≠ 0) : Calls Try.prog 35 #[.pointer (some ⟨h, 0, none⟩), .int .i64 r, .agg #[.int .i64 lo, .int .i64 hi], .int .i64 t] w fun en w' => en = .returned (.int .i64 0) ∧ IsRf z w' h lb n f s dl ks ee wd rh sl cp i (fun v => if v = r then some (lo, hi, t) else M v) ∧ w.grownBy w' (some lb) := by
  have hmy := of_decide_eq_true hmay
  obtain ⟨r0, r1, r2, t0, t1⟩ := hmy
  have r3 : r < (n.toNat : Int) := by omega
  have hrn : r.toNat < n.toNat := by omega
  have EL : Aside0 (∀ W, IsRf z W h lb n f s dl ks ee wd rh sl cp i M → W.cell? ⟨lb, r.toNat * 4, none⟩ = some (.bool false) ∧ W.cell? ⟨lb, r.toNat * 4 + 1, none⟩ = some (.int .i64 0) ∧ W.cell? ⟨lb, r.toNat * 4 + 2, none⟩ = some (.int .i64 0) ∧ W.cell? ⟨lb, r.toNat * 4 + 3, none⟩ = some (.int .i64 0) ∧ ∀ c, W.frozen? ⟨lb, c, none⟩ = false) := ⟨fun W hW => by
    have g0 := hW.at r.toNat hrn 0 (by omega)
    have g1 := hW.at r.toNat hrn 1 (by omega)
    have g2 := hW.at r.toNat hrn 2 (by omega)
    have g3 := hW.at r.toNat hrn 3 (by omega)
    rw [Int.toNat_of_nonneg r0, hm] at g0 g1 g2 g3
    exact ⟨g0, g1, g2, g3, fun c => blk_frozen hW.2.1 c⟩⟩
  have HRN := Aside0.mk hrn
  have HI := Aside0.mk hI
  have HMAY := Aside0.mk hmay
  have HR : Aside0 (carillonref08_Right.f lo hi = some true) := ⟨by rw [rright_eq, decide_eq_true hR]⟩
  have HAT := Aside0.mk hat
  have HB := Aside0.mk hB
  have heb : (e == 0) = false := beq_eq_false_iff_ne.2 he
  have hh0 := blk_lt HI.out.1
  have hl0 := blk_lt HI.out.2.1
  clear hI hmay hR hm hat hB hrn he
  go_enter Try.func35, Try.ntmps35
  go_upto_region 11 with (first | (go_at_call 59; go_loud (refine (rmay_any h lb n f s dl ks ee wd rh sl cp i r t z _ M (IsRf.alloc HI.out _) true HMAY.out).mono ?_; rintro en w1 ⟨rfl, e1⟩; rw [e1]; clear e1)) | (go_at_call 60; go_loud (refine (carillonref08_Right.calls lo hi true _ HR.out).mono ?_; rintro en w2 ⟨rfl, hb2⟩; have J2 : Aside0 (IsRf z w2 h lb n f s dl ks ee wd rh sl cp i M) := ⟨IsRf.below (IsRf.alloc HI.out _) hb2⟩; have B2 : Aside0 (Below w.heap.size w w2) := ⟨below_step (below_alloc (Below.refl _ _) _) hb2⟩; have F2 : Aside0 (w2.heap[w.heap.size]? = some (.cells #[.int .i64 lo, .int .i64 hi] 61 (0, 0))) := ⟨blk_below (blk_new _ _) hb2⟩; have k11 : w2.cell? ⟨h, 11, none⟩ = some (.slice (some ⟨lb, 0, none⟩) n.toNat n.toNat) := (blk_cell J2.out.1 11).trans rfl; obtain ⟨e0, e1, e2, e3, ef⟩ := EL.out _ J2.out; have p0 : w2.cell? ⟨w.heap.size, 0, none⟩ = some (.int .i64 lo) := (blk_cell F2.out 0).trans rfl; have pf0 : w2.frozen? ⟨w.heap.size, 0, none⟩ = false := blk_frozen F2.out 0; have p1 : w2.cell? ⟨w.heap.size, 1, none⟩ = some (.int .i64 hi) := (blk_cell F2.out 1).trans rfl; have pf1 : w2.frozen? ⟨w.heap.size, 1, none⟩ = false := blk_frozen F2.out 1; clear hb2)) | (go_at_call 36; go_loud (refine (HAT.out _ (IsRf.alloc J2.out _)).mono ?_; rintro en w3 ⟨rfl, hb3⟩; have J3 : Aside0 (IsRf z w3 h lb n f s dl ks ee wd rh sl cp i M) := ⟨IsRf.below (IsRf.alloc J2.out _) hb3⟩; have B3 : Aside0 (Below w.heap.size w w3) := ⟨below_step (below_alloc B2.out _) hb3⟩; have F3 : Aside0 (w3.heap[w.heap.size]? = some (.cells #[.int .i64 lo, .int .i64 hi] 61 (0, 0))) := ⟨blk_below (blk_alloc F2.out _) hb3⟩; have X3 : Aside0 (w3.heap[w2.heap.size]? = some (.cells #[.int .i64 lo, .int .i64 hi] 61 (0, 0))) := ⟨blk_below (blk_new _ _) hb3⟩; have s0 : w3.cell? ⟨w.heap.size, 0, none⟩ = some (.int .i64 lo) := (blk_cell F3.out 0).trans rfl; have sf0 : w3.frozen? ⟨w.heap.size, 0, none⟩ = false := blk_frozen F3.out 0; have s1 : w3.cell? ⟨w.heap.size, 1, none⟩ = some (.int .i64 hi) := (blk_cell F3.out 1).trans rfl; have sf1 : w3.frozen? ⟨w.heap.size, 1, none⟩ = false := blk_frozen F3.out 1; have x0 : w3.cell? ⟨w2.heap.size, 0, none⟩ = some (.int .i64 lo) := (blk_cell X3.out 0).trans rfl; have xf0 : w3.frozen? ⟨w2.heap.size, 0, none⟩ = false := blk_frozen X3.out 0; have x1 : w3.cell? ⟨w2.heap.size, 1, none⟩ = some (.int .i64 hi) := (blk_cell X3.out 1).trans rfl; have xf1 : w3.frozen? ⟨w2.heap.size, 1, none⟩ = false := blk_frozen X3.out 1; have n3 := World.new_ne w3 _ s0; have n3x := World.new_ne w3 _ x0; clear hb3)))
  have HHN : Aside0 (h ≠ w2.heap.size) := ⟨by have := B2.out.size; omega⟩
  have HLN : Aside0 (lb ≠ w2.heap.size) := ⟨by have := B2.out.size; omega⟩
  refine wp_gen (fun W => (IsRf z W h lb n f s dl ks ee wd rh sl cp i M) ∧ W.heap[w2.heap.size]? = some (.cells #[.int .i64 lo, .int .i64 hi] 61 (0, 0)) ∧ Below w.heap.size w W) ⟨IsRf.alloc J3.out _, blk_alloc X3.out _, below_alloc B3.out _⟩ ?_
  clear F2 k11 e0 e1 e2 e3 ef p0 pf0 p1 pf1 J3 B3 F3 X3 s0 sf0 s1 sf1 n3 n3x x0 x1 xf0 xf1
  rintro W ⟨a1, a2, a3⟩
  have d11 : W.cell? ⟨h, 11, none⟩ = some (.slice (some ⟨lb, 0, none⟩) n.toNat n.toNat) := (blk_cell a1.1 11).trans rfl
  have d0 : W.cell? ⟨w2.heap.size, 0, none⟩ = some (.int .i64 lo) := (blk_cell a2 0).trans rfl; have df0 : W.frozen? ⟨w2.heap.size, 0, none⟩ = false := blk_frozen a2 0; have d1 : W.cell? ⟨w2.heap.size, 1, none⟩ = some (.int .i64 hi) := (blk_cell a2 1).trans rfl; have df1 : W.frozen? ⟨w2.heap.size, 1, none⟩ = false := blk_frozen a2 1
  obtain ⟨e0, e1, e2, e3, ef⟩ := EL.out _ a1
  have ef0 := ef (r.toNat * 4)
  have ef1 := ef (r.toNat * 4 + 1)
  have ef2 := ef (r.toNat * 4 + 2)
  have ef3 := ef (r.toNat * 4 + 3)
  have A1 := Aside0.mk a1
  have A3 := Aside0.mk a3
  clear a1 a2 a3 ef
  obtain ⟨N, hN⟩ : ∃ N : Nat, n.toNat = N := ⟨_, rfl⟩
  rw [hN] at d11 r3
  clear hN
  go_still_tail 9, (by kernel_rfl)
  go_wp2
  go_ret
  have q1 := blk_put (blk_put (blk_put (blk_put A1.out.2.1 (r.toNat * 4) (.bool true) rfl) (r.toNat * 4 + 1) (.int .i64 lo) rfl) (r.toNat * 4 + 2) (.int .i64 hi) rfl) (r.toNat * 4 + 3) (.int .i64 t) rfl
  have hne : h ≠ lb := blk_ne A1.out.1 A1.out.2.1 (by decide)
  refine ⟨rfl, ⟨blk_drew (blk_far (blk_far (blk_far (blk_far A1.out.1 hne _) hne _) hne _) hne _), ?_, A1.out.2.2⟩, ?_⟩
  · rw [List.setIfInBounds_toArray, List.setIfInBounds_toArray, List.setIfInBounds_toArray, List.setIfInBounds_toArray, kvl_put M n.toNat r.toNat lo hi t HRN.out, Int.toNat_of_nonneg r0] at q1
    exact blk_drew q1
  · have hb := A3.out
    refine ⟨hb.os, hb.tape, hb.output, by have := hb.size; simpa using this, fun j hj hnj => ?_⟩
    have hjl : j ≠ lb := fun e => hnj (by rw [e])
    exact (Below.heap_setCell _ _ _ j hjl).trans ((Below.heap_setCell _ _ _ j hjl).trans ((Below.heap_setCell _ _ _ j hjl).trans ((Below.heap_setCell _ _ _ j hjl).trans (hb.block j hj))))
set_option maxRecDepth 100000 in
set_option maxHeartbeats 8000000 in
theorem rput_gone (h lb : Nat) (n f s dl ks ee wd rh sl cp i : Int) (r lo hi t : Int) (l0 h0 a0 : Int) (x y e : Int) (z w : World) (M : KM) (hI : IsRf z w h lb n f s dl ks ee wd rh sl cp i M) (hB : Below z.heap.size z w) (hmay : mayF n i r t = true) (hR : R lo hi) (hm : M r = some (l0, h0, a0)) (hlt : ¬ t < a0) (hat : ∀ W, IsRf z W h lb n f s dl ks ee wd rh sl cp i M → Calls Try.prog 36 #[.pointer (some ⟨h, 0, none⟩), .int .i64 r, .int .i64 t] W fun en w' => en = .returned (.tuple #[.agg #[.int .i64 x, .int .i64 y], .int .i64 e]) ∧ Below W.heap.size W w') (he : e ≠ 0) : Calls Try.prog 35 #[.pointer (some ⟨h, 0, none⟩), .int .i64 r, .agg #[.int .i64 lo, .int .i64 hi], .int .i64 t] w fun en w' => en = .returned (.int .i64 0) ∧ IsRf z w' h lb n f s dl ks ee wd rh sl cp i (fun v => if v = r then some (lo, hi, t) else M v) ∧ w.grownBy w' (some lb) := by
  have hmy := of_decide_eq_true hmay
  obtain ⟨r0, r1, r2, t0, t1⟩ := hmy
  have r3 : r < (n.toNat : Int) := by omega
  have hrn : r.toNat < n.toNat := by omega
  have EL : Aside0 (∀ W, IsRf z W h lb n f s dl ks ee wd rh sl cp i M → W.cell? ⟨lb, r.toNat * 4, none⟩ = some (.bool true) ∧ W.cell? ⟨lb, r.toNat * 4 + 1, none⟩ = some (.int .i64 l0) ∧ W.cell? ⟨lb, r.toNat * 4 + 2, none⟩ = some (.int .i64 h0) ∧ W.cell? ⟨lb, r.toNat * 4 + 3, none⟩ = some (.int .i64 a0) ∧ ∀ c, W.frozen? ⟨lb, c, none⟩ = false) := ⟨fun W hW => by
    have g0 := hW.at r.toNat hrn 0 (by omega)
    have g1 := hW.at r.toNat hrn 1 (by omega)
    have g2 := hW.at r.toNat hrn 2 (by omega)
    have g3 := hW.at r.toNat hrn 3 (by omega)
    rw [Int.toNat_of_nonneg r0, hm] at g0 g1 g2 g3
    exact ⟨g0, g1, g2, g3, fun c => blk_frozen hW.2.1 c⟩⟩
  have HRN := Aside0.mk hrn
  have HI := Aside0.mk hI
  have HMAY := Aside0.mk hmay
  have HR : Aside0 (carillonref08_Right.f lo hi = some true) := ⟨by rw [rright_eq, decide_eq_true hR]⟩
  have hb : decide (t < a0) = false := decide_eq_false hlt
  have HAT := Aside0.mk hat
  have HB := Aside0.mk hB
  have heb : (e == 0) = false := beq_eq_false_iff_ne.2 he
  have hh0 := blk_lt HI.out.1
  have hl0 := blk_lt HI.out.2.1
  clear hI hmay hR hm hat hB hrn hlt he
  go_enter Try.func35, Try.ntmps35
  go_upto_region 11 with (first | (go_at_call 59; go_loud (refine (rmay_any h lb n f s dl ks ee wd rh sl cp i r t z _ M (IsRf.alloc HI.out _) true HMAY.out).mono ?_; rintro en w1 ⟨rfl, e1⟩; rw [e1]; clear e1)) | (go_at_call 60; go_loud (refine (carillonref08_Right.calls lo hi true _ HR.out).mono ?_; rintro en w2 ⟨rfl, hb2⟩; have J2 : Aside0 (IsRf z w2 h lb n f s dl ks ee wd rh sl cp i M) := ⟨IsRf.below (IsRf.alloc HI.out _) hb2⟩; have B2 : Aside0 (Below w.heap.size w w2) := ⟨below_step (below_alloc (Below.refl _ _) _) hb2⟩; have F2 : Aside0 (w2.heap[w.heap.size]? = some (.cells #[.int .i64 lo, .int .i64 hi] 61 (0, 0))) := ⟨blk_below (blk_new _ _) hb2⟩; have k11 : w2.cell? ⟨h, 11, none⟩ = some (.slice (some ⟨lb, 0, none⟩) n.toNat n.toNat) := (blk_cell J2.out.1 11).trans rfl; obtain ⟨e0, e1, e2, e3, ef⟩ := EL.out _ J2.out; have p0 : w2.cell? ⟨w.heap.size, 0, none⟩ = some (.int .i64 lo) := (blk_cell F2.out 0).trans rfl; have pf0 : w2.frozen? ⟨w.heap.size, 0, none⟩ = false := blk_frozen F2.out 0; have p1 : w2.cell? ⟨w.heap.size, 1, none⟩ = some (.int .i64 hi) := (blk_cell F2.out 1).trans rfl; have pf1 : w2.frozen? ⟨w.heap.size, 1, none⟩ = false := blk_frozen F2.out 1; clear hb2)) | (go_at_call 36; go_loud (refine (HAT.out _ (IsRf.alloc J2.out _)).mono ?_; rintro en w3 ⟨rfl, hb3⟩; have J3 : Aside0 (IsRf z w3 h lb n f s dl ks ee wd rh sl cp i M) := ⟨IsRf.below (IsRf.alloc J2.out _) hb3⟩; have B3 : Aside0 (Below w.heap.size w w3) := ⟨below_step (below_alloc B2.out _) hb3⟩; have F3 : Aside0 (w3.heap[w.heap.size]? = some (.cells #[.int .i64 lo, .int .i64 hi] 61 (0, 0))) := ⟨blk_below (blk_alloc F2.out _) hb3⟩; have X3 : Aside0 (w3.heap[w2.heap.size]? = some (.cells #[.int .i64 lo, .int .i64 hi] 61 (0, 0))) := ⟨blk_below (blk_new _ _) hb3⟩; have s0 : w3.cell? ⟨w.heap.size, 0, none⟩ = some (.int .i64 lo) := (blk_cell F3.out 0).trans rfl; have sf0 : w3.frozen? ⟨w.heap.size, 0, none⟩ = false := blk_frozen F3.out 0; have s1 : w3.cell? ⟨w.heap.size, 1, none⟩ = some (.int .i64 hi) := (blk_cell F3.out 1).trans rfl; have sf1 : w3.frozen? ⟨w.heap.size, 1, none⟩ = false := blk_frozen F3.out 1; have x0 : w3.cell? ⟨w2.heap.size, 0, none⟩ = some (.int .i64 lo) := (blk_cell X3.out 0).trans rfl; have xf0 : w3.frozen? ⟨w2.heap.size, 0, none⟩ = false := blk_frozen X3.out 0; have x1 : w3.cell? ⟨w2.heap.size, 1, none⟩ = some (.int .i64 hi) := (blk_cell X3.out 1).trans rfl; have xf1 : w3.frozen? ⟨w2.heap.size, 1, none⟩ = false := blk_frozen X3.out 1; have n3 := World.new_ne w3 _ s0; have n3x := World.new_ne w3 _ x0; clear hb3)))
  have HHN : Aside0 (h ≠ w2.heap.size) := ⟨by have := B2.out.size; omega⟩
  have HLN : Aside0 (lb ≠ w2.heap.size) := ⟨by have := B2.out.size; omega⟩
  refine wp_gen (fun W => (IsRf z W h lb n f s dl ks ee wd rh sl cp i M) ∧ W.heap[w2.heap.size]? = some (.cells #[.int .i64 lo, .int .i64 hi] 61 (0, 0)) ∧ Below w.heap.size w W) ⟨IsRf.alloc J3.out _, blk_alloc X3.out _, below_alloc B3.out _⟩ ?_
  clear F2 k11 e0 e1 e2 e3 ef p0 pf0 p1 pf1 J3 B3 F3 X3 s0 sf0 s1 sf1 n3 n3x x0 x1 xf0 xf1
  rintro W ⟨a1, a2, a3⟩
  have d11 : W.cell? ⟨h, 11, none⟩ = some (.slice (some ⟨lb, 0, none⟩) n.toNat n.toNat) := (blk_cell a1.1 11).trans rfl
  have d0 : W.cell? ⟨w2.heap.size, 0, none⟩ = some (.int .i64 lo) := (blk_cell a2 0).trans rfl; have df0 : W.frozen? ⟨w2.heap.size, 0, none⟩ = false := blk_frozen a2 0; have d1 : W.cell? ⟨w2.heap.size, 1, none⟩ = some (.int .i64 hi) := (blk_cell a2 1).trans rfl; have df1 : W.frozen? ⟨w2.heap.size, 1, none⟩ = false := blk_frozen a2 1
  obtain ⟨e0, e1, e2, e3, ef⟩ := EL.out _ a1
  have ef0 := ef (r.toNat * 4)
  have ef1 := ef (r.toNat * 4 + 1)
  have ef2 := ef (r.toNat * 4 + 2)
  have ef3 := ef (r.toNat * 4 + 3)
  have A1 := Aside0.mk a1
  have A3 := Aside0.mk a3
  clear a1 a2 a3 ef
  obtain ⟨N, hN⟩ : ∃ N : Nat, n.toNat = N := ⟨_, rfl⟩
  rw [hN] at d11 r3
  clear hN
  go_still_tail 9, (by kernel_rfl)
  go_wp2
  go_ret
  have q1 := blk_put (blk_put (blk_put (blk_put A1.out.2.1 (r.toNat * 4) (.bool true) rfl) (r.toNat * 4 + 1) (.int .i64 lo) rfl) (r.toNat * 4 + 2) (.int .i64 hi) rfl) (r.toNat * 4 + 3) (.int .i64 t) rfl
  have hne : h ≠ lb := blk_ne A1.out.1 A1.out.2.1 (by decide)
  refine ⟨rfl, ⟨blk_drew (blk_far (blk_far (blk_far (blk_far A1.out.1 hne _) hne _) hne _) hne _), ?_, A1.out.2.2⟩, ?_⟩
  · rw [List.setIfInBounds_toArray, List.setIfInBounds_toArray, List.setIfInBounds_toArray, List.setIfInBounds_toArray, kvl_put M n.toNat r.toNat lo hi t HRN.out, Int.toNat_of_nonneg r0] at q1
    exact blk_drew q1
  · have hb := A3.out
    refine ⟨hb.os, hb.tape, hb.output, by have := hb.size; simpa using this, fun j hj hnj => ?_⟩
    have hjl : j ≠ lb := fun e => hnj (by rw [e])
    exact (Below.heap_setCell _ _ _ j hjl).trans ((Below.heap_setCell _ _ _ j hjl).trans ((Below.heap_setCell _ _ _ j hjl).trans ((Below.heap_setCell _ _ _ j hjl).trans (hb.block j hj))))
set_option maxRecDepth 100000 in
set_option maxHeartbeats 8000000 in
theorem rput_apart (h lb : Nat) (n f s dl ks ee wd rh sl cp i : Int) (r lo hi t : Int) (l0 h0 a0 : Int) (x y e : Int) (p q em : Int) (z w : World) (M : KM) (hI : IsRf z w h lb n f s dl ks ee wd rh sl cp i M) (hB : Below z.heap.size z w) (hmay : mayF n i r t = true) (hR : R lo hi) (hm : M r = some (l0, h0, a0)) (hlt : ¬ t < a0) (hat : ∀ W, IsRf z W h lb n f s dl ks ee wd rh sl cp i M → Calls Try.prog 36 #[.pointer (some ⟨h, 0, none⟩), .int .i64 r, .int .i64 t] W fun en w' => en = .returned (.tuple #[.agg #[.int .i64 x, .int .i64 y], .int .i64 0]) ∧ Below W.heap.size W w') (hme : carillonref08_Meet.f 1 x y lo hi = some (p, q, em)) (he2 : em ≠ 0) : Calls Try.prog 35 #[.pointer (some ⟨h, 0, none⟩), .int .i64 r, .agg #[.int .i64 lo, .int .i64 hi], .int .i64 t] w fun en w' => en = .returned (.int .i64 0) ∧ IsRf z w' h lb n f s dl ks ee wd rh sl cp i (fun v => if v = r then some (lo, hi, t) else M v) ∧ w.grownBy w' (some lb) := by
  have hmy := of_decide_eq_true hmay
  obtain ⟨r0, r1, r2, t0, t1⟩ := hmy
  have r3 : r < (n.toNat : Int) := by omega
  have hrn : r.toNat < n.toNat := by omega
  have EL : Aside0 (∀ W, IsRf z W h lb n f s dl ks ee wd rh sl cp i M → W.cell? ⟨lb, r.toNat * 4, none⟩ = some (.bool true) ∧ W.cell? ⟨lb, r.toNat * 4 + 1, none⟩ = some (.int .i64 l0) ∧ W.cell? ⟨lb, r.toNat * 4 + 2, none⟩ = some (.int .i64 h0) ∧ W.cell? ⟨lb, r.toNat * 4 + 3, none⟩ = some (.int .i64 a0) ∧ ∀ c, W.frozen? ⟨lb, c, none⟩ = false) := ⟨fun W hW => by
    have g0 := hW.at r.toNat hrn 0 (by omega)
    have g1 := hW.at r.toNat hrn 1 (by omega)
    have g2 := hW.at r.toNat hrn 2 (by omega)
    have g3 := hW.at r.toNat hrn 3 (by omega)
    rw [Int.toNat_of_nonneg r0, hm] at g0 g1 g2 g3
    exact ⟨g0, g1, g2, g3, fun c => blk_frozen hW.2.1 c⟩⟩
  have HRN := Aside0.mk hrn
  have HI := Aside0.mk hI
  have HMAY := Aside0.mk hmay
  have HR : Aside0 (carillonref08_Right.f lo hi = some true) := ⟨by rw [rright_eq, decide_eq_true hR]⟩
  have hb : decide (t < a0) = false := decide_eq_false hlt
  have HAT := Aside0.mk hat
  have HB := Aside0.mk hB
  have HME := Aside0.mk hme
  have he2b : (em == 0) = false := beq_eq_false_iff_ne.2 he2
  have hh0 := blk_lt HI.out.1
  have hl0 := blk_lt HI.out.2.1
  clear hI hmay hR hm hat hB hrn hlt hme he2
  go_enter Try.func35, Try.ntmps35
  go_upto_region 11 with (first | (go_at_call 59; go_loud (refine (rmay_any h lb n f s dl ks ee wd rh sl cp i r t z _ M (IsRf.alloc HI.out _) true HMAY.out).mono ?_; rintro en w1 ⟨rfl, e1⟩; rw [e1]; clear e1)) | (go_at_call 60; go_loud (refine (carillonref08_Right.calls lo hi true _ HR.out).mono ?_; rintro en w2 ⟨rfl, hb2⟩; have J2 : Aside0 (IsRf z w2 h lb n f s dl ks ee wd rh sl cp i M) := ⟨IsRf.below (IsRf.alloc HI.out _) hb2⟩; have B2 : Aside0 (Below w.heap.size w w2) := ⟨below_step (below_alloc (Below.refl _ _) _) hb2⟩; have F2 : Aside0 (w2.heap[w.heap.size]? = some (.cells #[.int .i64 lo, .int .i64 hi] 61 (0, 0))) := ⟨blk_below (blk_new _ _) hb2⟩; have k11 : w2.cell? ⟨h, 11, none⟩ = some (.slice (some ⟨lb, 0, none⟩) n.toNat n.toNat) := (blk_cell J2.out.1 11).trans rfl; obtain ⟨e0, e1, e2, e3, ef⟩ := EL.out _ J2.out; have p0 : w2.cell? ⟨w.heap.size, 0, none⟩ = some (.int .i64 lo) := (blk_cell F2.out 0).trans rfl; have pf0 : w2.frozen? ⟨w.heap.size, 0, none⟩ = false := blk_frozen F2.out 0; have p1 : w2.cell? ⟨w.heap.size, 1, none⟩ = some (.int .i64 hi) := (blk_cell F2.out 1).trans rfl; have pf1 : w2.frozen? ⟨w.heap.size, 1, none⟩ = false := blk_frozen F2.out 1; clear hb2)) | (go_at_call 36; go_loud (refine (HAT.out _ (IsRf.alloc J2.out _)).mono ?_; rintro en w3 ⟨rfl, hb3⟩; have J3 : Aside0 (IsRf z w3 h lb n f s dl ks ee wd rh sl cp i M) := ⟨IsRf.below (IsRf.alloc J2.out _) hb3⟩; have B3 : Aside0 (Below w.heap.size w w3) := ⟨below_step (below_alloc B2.out _) hb3⟩; have F3 : Aside0 (w3.heap[w.heap.size]? = some (.cells #[.int .i64 lo, .int .i64 hi] 61 (0, 0))) := ⟨blk_below (blk_alloc F2.out _) hb3⟩; have X3 : Aside0 (w3.heap[w2.heap.size]? = some (.cells #[.int .i64 lo, .int .i64 hi] 61 (0, 0))) := ⟨blk_below (blk_new _ _) hb3⟩; have s0 : w3.cell? ⟨w.heap.size, 0, none⟩ = some (.int .i64 lo) := (blk_cell F3.out 0).trans rfl; have sf0 : w3.frozen? ⟨w.heap.size, 0, none⟩ = false := blk_frozen F3.out 0; have s1 : w3.cell? ⟨w.heap.size, 1, none⟩ = some (.int .i64 hi) := (blk_cell F3.out 1).trans rfl; have sf1 : w3.frozen? ⟨w.heap.size, 1, none⟩ = false := blk_frozen F3.out 1; have x0 : w3.cell? ⟨w2.heap.size, 0, none⟩ = some (.int .i64 lo) := (blk_cell X3.out 0).trans rfl; have xf0 : w3.frozen? ⟨w2.heap.size, 0, none⟩ = false := blk_frozen X3.out 0; have x1 : w3.cell? ⟨w2.heap.size, 1, none⟩ = some (.int .i64 hi) := (blk_cell X3.out 1).trans rfl; have xf1 : w3.frozen? ⟨w2.heap.size, 1, none⟩ = false := blk_frozen X3.out 1; have n3 := World.new_ne w3 _ s0; have n3x := World.new_ne w3 _ x0; clear hb3)) | (go_at_call 61; go_loud (refine (carillonref08_Meet.calls 1 x y lo hi p q em _ HME.out).mono ?_; rintro en w4 ⟨rfl, hb4⟩; have J4 : Aside0 (IsRf z w4 h lb n f s dl ks ee wd rh sl cp i M) := ⟨IsRf.below (IsRf.alloc J3.out _) hb4⟩; have B4 : Aside0 (Below w.heap.size w w4) := ⟨below_step (below_alloc B3.out _) hb4⟩; have X4 : Aside0 (w4.heap[w2.heap.size]? = some (.cells #[.int .i64 lo, .int .i64 hi] 61 (0, 0))) := ⟨blk_below (blk_alloc X3.out _) hb4⟩; have y0 : w4.cell? ⟨w2.heap.size, 0, none⟩ = some (.int .i64 lo) := (blk_cell X4.out 0).trans rfl; have yf0 : w4.frozen? ⟨w2.heap.size, 0, none⟩ = false := blk_frozen X4.out 0; have y1 : w4.cell? ⟨w2.heap.size, 1, none⟩ = some (.int .i64 hi) := (blk_cell X4.out 1).trans rfl; have yf1 : w4.frozen? ⟨w2.heap.size, 1, none⟩ = false := blk_frozen X4.out 1; have n4x := World.new_ne w4 _ y0; clear hb4)))
  have HHN : Aside0 (h ≠ w2.heap.size) := ⟨by have := B2.out.size; omega⟩
  have HLN : Aside0 (lb ≠ w2.heap.size) := ⟨by have := B2.out.size; omega⟩
  refine wp_gen (fun W => (IsRf z W h lb n f s dl ks ee wd rh sl cp i M) ∧ W.heap[w2.heap.size]? = some (.cells #[.int .i64 lo, .int .i64 hi] 61 (0, 0)) ∧ Below w.heap.size w W) ⟨IsRf.alloc J4.out _, blk_alloc X4.out _, below_alloc B4.out _⟩ ?_
  clear F2 k11 e0 e1 e2 e3 ef p0 pf0 p1 pf1 J3 B3 F3 X3 s0 sf0 s1 sf1 n3 n3x x0 x1 xf0 xf1
  rintro W ⟨a1, a2, a3⟩
  have d11 : W.cell? ⟨h, 11, none⟩ = some (.slice (some ⟨lb, 0, none⟩) n.toNat n.toNat) := (blk_cell a1.1 11).trans rfl
  have d0 : W.cell? ⟨w2.heap.size, 0, none⟩ = some (.int .i64 lo) := (blk_cell a2 0).trans rfl; have df0 : W.frozen? ⟨w2.heap.size, 0, none⟩ = false := blk_frozen a2 0; have d1 : W.cell? ⟨w2.heap.size, 1, none⟩ = some (.int .i64 hi) := (blk_cell a2 1).trans rfl; have df1 : W.frozen? ⟨w2.heap.size, 1, none⟩ = false := blk_frozen a2 1
  obtain ⟨e0, e1, e2, e3, ef⟩ := EL.out _ a1
  have ef0 := ef (r.toNat * 4)
  have ef1 := ef (r.toNat * 4 + 1)
  have ef2 := ef (r.toNat * 4 + 2)
  have ef3 := ef (r.toNat * 4 + 3)
  have A1 := Aside0.mk a1
  have A3 := Aside0.mk a3
  clear a1 a2 a3 ef
  obtain ⟨N, hN⟩ : ∃ N : Nat, n.toNat = N := ⟨_, rfl⟩
  rw [hN] at d11 r3
  clear hN
  go_still_tail 9, (by kernel_rfl)
  go_wp2
  go_ret
  have q1 := blk_put (blk_put (blk_put (blk_put A1.out.2.1 (r.toNat * 4) (.bool true) rfl) (r.toNat * 4 + 1) (.int .i64 lo) rfl) (r.toNat * 4 + 2) (.int .i64 hi) rfl) (r.toNat * 4 + 3) (.int .i64 t) rfl
  have hne : h ≠ lb := blk_ne A1.out.1 A1.out.2.1 (by decide)
  refine ⟨rfl, ⟨blk_drew (blk_far (blk_far (blk_far (blk_far A1.out.1 hne _) hne _) hne _) hne _), ?_, A1.out.2.2⟩, ?_⟩
  · rw [List.setIfInBounds_toArray, List.setIfInBounds_toArray, List.setIfInBounds_toArray, List.setIfInBounds_toArray, kvl_put M n.toNat r.toNat lo hi t HRN.out, Int.toNat_of_nonneg r0] at q1
    exact blk_drew q1
  · have hb := A3.out
    refine ⟨hb.os, hb.tape, hb.output, by have := hb.size; simpa using this, fun j hj hnj => ?_⟩
    have hjl : j ≠ lb := fun e => hnj (by rw [e])
    exact (Below.heap_setCell _ _ _ j hjl).trans ((Below.heap_setCell _ _ _ j hjl).trans ((Below.heap_setCell _ _ _ j hjl).trans ((Below.heap_setCell _ _ _ j hjl).trans (hb.block j hj))))
set_option maxRecDepth 100000 in
set_option maxHeartbeats 8000000 in
theorem rput_met (h lb : Nat) (n f s dl ks ee wd rh sl cp i : Int) (r lo hi t : Int) (l0 h0 a0 : Int) (x y e : Int) (p q em : Int) (z w : World) (M : KM) (hI : IsRf z w h lb n f s dl ks ee wd rh sl cp i M) (hB : Below z.heap.size z w) (hmay : mayF n i r t = true) (hR : R lo hi) (hm : M r = some (l0, h0, a0)) (hlt : ¬ t < a0) (hat : ∀ W, IsRf z W h lb n f s dl ks ee wd rh sl cp i M → Calls Try.prog 36 #[.pointer (some ⟨h, 0, none⟩), .int .i64 r, .int .i64 t] W fun en w' => en = .returned (.tuple #[.agg #[.int .i64 x, .int .i64 y], .int .i64 0]) ∧ Below W.heap.size W w') (hme : carillonref08_Meet.f 1 x y lo hi = some (p, q, 0)) : Calls Try.prog 35 #[.pointer (some ⟨h, 0, none⟩), .int .i64 r, .agg #[.int .i64 lo, .int .i64 hi], .int .i64 t] w fun en w' => en = .returned (.int .i64 0) ∧ IsRf z w' h lb n f s dl ks ee wd rh sl cp i (fun v => if v = r then some (p, q, t) else M v) ∧ w.grownBy w' (some lb) := by
  have hmy := of_decide_eq_true hmay
  obtain ⟨r0, r1, r2, t0, t1⟩ := hmy
  have r3 : r < (n.toNat : Int) := by omega
  have hrn : r.toNat < n.toNat := by omega
  have EL : Aside0 (∀ W, IsRf z W h lb n f s dl ks ee wd rh sl cp i M → W.cell? ⟨lb, r.toNat * 4, none⟩ = some (.bool true) ∧ W.cell? ⟨lb, r.toNat * 4 + 1, none⟩ = some (.int .i64 l0) ∧ W.cell? ⟨lb, r.toNat * 4 + 2, none⟩ = some (.int .i64 h0) ∧ W.cell? ⟨lb, r.toNat * 4 + 3, none⟩ = some (.int .i64 a0) ∧ ∀ c, W.frozen? ⟨lb, c, none⟩ = false) := ⟨fun W hW => by
    have g0 := hW.at r.toNat hrn 0 (by omega)
    have g1 := hW.at r.toNat hrn 1 (by omega)
    have g2 := hW.at r.toNat hrn 2 (by omega)
    have g3 := hW.at r.toNat hrn 3 (by omega)
    rw [Int.toNat_of_nonneg r0, hm] at g0 g1 g2 g3
    exact ⟨g0, g1, g2, g3, fun c => blk_frozen hW.2.1 c⟩⟩
  have HRN := Aside0.mk hrn
  have HI := Aside0.mk hI
  have HMAY := Aside0.mk hmay
  have HR : Aside0 (carillonref08_Right.f lo hi = some true) := ⟨by rw [rright_eq, decide_eq_true hR]⟩
  have hb : decide (t < a0) = false := decide_eq_false hlt
  have HAT := Aside0.mk hat
  have HB := Aside0.mk hB
  have HME := Aside0.mk hme
  have hh0 := blk_lt HI.out.1
  have hl0 := blk_lt HI.out.2.1
  clear hI hmay hR hm hat hB hrn hlt hme
  go_enter Try.func35, Try.ntmps35
  go_upto_region 11 with (first | (go_at_call 59; go_loud (refine (rmay_any h lb n f s dl ks ee wd rh sl cp i r t z _ M (IsRf.alloc HI.out _) true HMAY.out).mono ?_; rintro en w1 ⟨rfl, e1⟩; rw [e1]; clear e1)) | (go_at_call 60; go_loud (refine (carillonref08_Right.calls lo hi true _ HR.out).mono ?_; rintro en w2 ⟨rfl, hb2⟩; have J2 : Aside0 (IsRf z w2 h lb n f s dl ks ee wd rh sl cp i M) := ⟨IsRf.below (IsRf.alloc HI.out _) hb2⟩; have B2 : Aside0 (Below w.heap.size w w2) := ⟨below_step (below_alloc (Below.refl _ _) _) hb2⟩; have F2 : Aside0 (w2.heap[w.heap.size]? = some (.cells #[.int .i64 lo, .int .i64 hi] 61 (0, 0))) := ⟨blk_below (blk_new _ _) hb2⟩; have k11 : w2.cell? ⟨h, 11, none⟩ = some (.slice (some ⟨lb, 0, none⟩) n.toNat n.toNat) := (blk_cell J2.out.1 11).trans rfl; obtain ⟨e0, e1, e2, e3, ef⟩ := EL.out _ J2.out; have p0 : w2.cell? ⟨w.heap.size, 0, none⟩ = some (.int .i64 lo) := (blk_cell F2.out 0).trans rfl; have pf0 : w2.frozen? ⟨w.heap.size, 0, none⟩ = false := blk_frozen F2.out 0; have p1 : w2.cell? ⟨w.heap.size, 1, none⟩ = some (.int .i64 hi) := (blk_cell F2.out 1).trans rfl; have pf1 : w2.frozen? ⟨w.heap.size, 1, none⟩ = false := blk_frozen F2.out 1; clear hb2)) | (go_at_call 36; go_loud (refine (HAT.out _ (IsRf.alloc J2.out _)).mono ?_; rintro en w3 ⟨rfl, hb3⟩; have J3 : Aside0 (IsRf z w3 h lb n f s dl ks ee wd rh sl cp i M) := ⟨IsRf.below (IsRf.alloc J2.out _) hb3⟩; have B3 : Aside0 (Below w.heap.size w w3) := ⟨below_step (below_alloc B2.out _) hb3⟩; have F3 : Aside0 (w3.heap[w.heap.size]? = some (.cells #[.int .i64 lo, .int .i64 hi] 61 (0, 0))) := ⟨blk_below (blk_alloc F2.out _) hb3⟩; have X3 : Aside0 (w3.heap[w2.heap.size]? = some (.cells #[.int .i64 lo, .int .i64 hi] 61 (0, 0))) := ⟨blk_below (blk_new _ _) hb3⟩; have s0 : w3.cell? ⟨w.heap.size, 0, none⟩ = some (.int .i64 lo) := (blk_cell F3.out 0).trans rfl; have sf0 : w3.frozen? ⟨w.heap.size, 0, none⟩ = false := blk_frozen F3.out 0; have s1 : w3.cell? ⟨w.heap.size, 1, none⟩ = some (.int .i64 hi) := (blk_cell F3.out 1).trans rfl; have sf1 : w3.frozen? ⟨w.heap.size, 1, none⟩ = false := blk_frozen F3.out 1; have x0 : w3.cell? ⟨w2.heap.size, 0, none⟩ = some (.int .i64 lo) := (blk_cell X3.out 0).trans rfl; have xf0 : w3.frozen? ⟨w2.heap.size, 0, none⟩ = false := blk_frozen X3.out 0; have x1 : w3.cell? ⟨w2.heap.size, 1, none⟩ = some (.int .i64 hi) := (blk_cell X3.out 1).trans rfl; have xf1 : w3.frozen? ⟨w2.heap.size, 1, none⟩ = false := blk_frozen X3.out 1; have n3 := World.new_ne w3 _ s0; have n3x := World.new_ne w3 _ x0; clear hb3)) | (go_at_call 61; go_loud (refine (carillonref08_Meet.calls 1 x y lo hi p q 0 _ HME.out).mono ?_; rintro en w4 ⟨rfl, hb4⟩; have J4 : Aside0 (IsRf z w4 h lb n f s dl ks ee wd rh sl cp i M) := ⟨IsRf.below (IsRf.alloc J3.out _) hb4⟩; have B4 : Aside0 (Below w.heap.size w w4) := ⟨below_step (below_alloc B3.out _) hb4⟩; have X4 : Aside0 (w4.heap[w2.heap.size]? = some (.cells #[.int .i64 lo, .int .i64 hi] 61 (0, 0))) := ⟨blk_below (blk_alloc X3.out _) hb4⟩; have y0 : w4.cell? ⟨w2.heap.size, 0, none⟩ = some (.int .i64 lo) := (blk_cell X4.out 0).trans rfl; have yf0 : w4.frozen? ⟨w2.heap.size, 0, none⟩ = false := blk_frozen X4.out 0; have y1 : w4.cell? ⟨w2.heap.size, 1, none⟩ = some (.int .i64 hi) := (blk_cell X4.out 1).trans rfl; have yf1 : w4.frozen? ⟨w2.heap.size, 1, none⟩ = false := blk_frozen X4.out 1; have n4x := World.new_ne w4 _ y0; clear hb4)))
  have HHN : Aside0 (h ≠ w2.heap.size) := ⟨by have := B2.out.size; omega⟩
  have HLN : Aside0 (lb ≠ w2.heap.size) := ⟨by have := B2.out.size; omega⟩
  refine wp_gen (fun W => (IsRf z W h lb n f s dl ks ee wd rh sl cp i M) ∧ W.heap[w2.heap.size]? = some (.cells #[.int .i64 p, .int .i64 q] 61 (0, 0)) ∧ Below w.heap.size w W) ⟨IsRf.far (IsRf.far (IsRf.alloc J4.out _) HHN.out HLN.out _) HHN.out HLN.out _, blk_put (cs := #[.int .i64 p, .int .i64 hi]) (blk_put (cs := #[.int .i64 lo, .int .i64 hi]) (blk_alloc X4.out _) 0 _ rfl) 1 _ rfl, below_set (below_set (below_alloc B4.out _) (B2.out.size)) (B2.out.size)⟩ ?_
  clear F2 k11 e0 e1 e2 e3 ef p0 pf0 p1 pf1 J3 B3 F3 X3 s0 sf0 s1 sf1 n3 n3x x0 x1 xf0 xf1
  rintro W ⟨a1, a2, a3⟩
  have d11 : W.cell? ⟨h, 11, none⟩ = some (.slice (some ⟨lb, 0, none⟩) n.toNat n.toNat) := (blk_cell a1.1 11).trans rfl
  have d0 : W.cell? ⟨w2.heap.size, 0, none⟩ = some (.int .i64 p) := (blk_cell a2 0).trans rfl; have df0 : W.frozen? ⟨w2.heap.size, 0, none⟩ = false := blk_frozen a2 0; have d1 : W.cell? ⟨w2.heap.size, 1, none⟩ = some (.int .i64 q) := (blk_cell a2 1).trans rfl; have df1 : W.frozen? ⟨w2.heap.size, 1, none⟩ = false := blk_frozen a2 1
  obtain ⟨e0, e1, e2, e3, ef⟩ := EL.out _ a1
  have ef0 := ef (r.toNat * 4)
  have ef1 := ef (r.toNat * 4 + 1)
  have ef2 := ef (r.toNat * 4 + 2)
  have ef3 := ef (r.toNat * 4 + 3)
  have A1 := Aside0.mk a1
  have A3 := Aside0.mk a3
  clear a1 a2 a3 ef
  obtain ⟨N, hN⟩ : ∃ N : Nat, n.toNat = N := ⟨_, rfl⟩
  rw [hN] at d11 r3
  clear hN
  go_still_tail 9, (by kernel_rfl)
  go_wp2
  go_ret
  have q1 := blk_put (blk_put (blk_put (blk_put A1.out.2.1 (r.toNat * 4) (.bool true) rfl) (r.toNat * 4 + 1) (.int .i64 p) rfl) (r.toNat * 4 + 2) (.int .i64 q) rfl) (r.toNat * 4 + 3) (.int .i64 t) rfl
  have hne : h ≠ lb := blk_ne A1.out.1 A1.out.2.1 (by decide)
  refine ⟨rfl, ⟨blk_drew (blk_far (blk_far (blk_far (blk_far A1.out.1 hne _) hne _) hne _) hne _), ?_, A1.out.2.2⟩, ?_⟩
  · rw [List.setIfInBounds_toArray, List.setIfInBounds_toArray, List.setIfInBounds_toArray, List.setIfInBounds_toArray, kvl_put M n.toNat r.toNat p q t HRN.out, Int.toNat_of_nonneg r0] at q1
    exact blk_drew q1
  · have hb := A3.out
    refine ⟨hb.os, hb.tape, hb.output, by have := hb.size; simpa using this, fun j hj hnj => ?_⟩
    have hjl : j ≠ lb := fun e => hnj (by rw [e])
    exact (Below.heap_setCell _ _ _ j hjl).trans ((Below.heap_setCell _ _ _ j hjl).trans ((Below.heap_setCell _ _ _ j hjl).trans ((Below.heap_setCell _ _ _ j hjl).trans (hb.block j hj))))

theorem rput_any (h lb : Nat) (n f s dl ks ee wd rh sl cp i : Int) (r lo hi t : Int) (z w : World) (M : KM) (hI : IsRf z w h lb n f s dl ks ee wd rh sl cp i M) (hMo : KOk M) (hB : Below z.heap.size z w) (ho : Ok n f s dl ks ee wd rh sl cp) : Calls Try.prog 35 #[.pointer (some ⟨h, 0, none⟩), .int .i64 r, .agg #[.int .i64 lo, .int .i64 hi], .int .i64 t] w fun en w' => en = .returned (.int .i64 (putF n i (2 * (n * s)) (rh + sl) M r lo hi t).1) ∧ IsRf z w' h lb n f s dl ks ee wd rh sl cp i (putF n i (2 * (n * s)) (rh + sl) M r lo hi t).2 ∧ w.grownBy w' (some lb) := by
  have same : ∀ w', Below w.heap.size w w' → IsRf z w' h lb n f s dl ks ee wd rh sl cp i M ∧ w.grownBy w' (some lb) := fun w' hb => ⟨hI.below hb, grown_of_below _ hb⟩
  have hat : ∀ x y e, atF n i (2 * (n * s)) (rh + sl) M r t = (x, y, e) → ∀ W, IsRf z W h lb n f s dl ks ee wd rh sl cp i M → Calls Try.prog 36 #[.pointer (some ⟨h, 0, none⟩), .int .i64 r, .int .i64 t] W fun en w' => en = .returned (.tuple #[.agg #[.int .i64 x, .int .i64 y], .int .i64 e]) ∧ Below W.heap.size W w' := fun x y e he W h1 => rat_any h lb n f s dl ks ee wd rh sl cp i r t x y e z W M h1 hMo ho he
  unfold putF
  by_cases hmay : mayF n i r t = true
  · rw [if_pos hmay]
    by_cases hR : R lo hi
    · rw [if_pos hR]
      obtain ⟨x, y, e, he⟩ : ∃ x y e, atF n i (2 * (n * s)) (rh + sl) M r t = (x, y, e) := ⟨_, _, _, rfl⟩
      cases hm : M r with
      | none =>
        have hne : e ≠ 0 := by
          unfold atF at he
          rw [if_pos hmay, hm] at he
          cases he
          decide
        rw [show oldB none t = false from rfl, if_neg (by decide), show newF (atF n i (2 * (n * s)) (rh + sl) M r t) lo hi t = (lo, hi, t) by rw [he]; unfold newF; rw [if_neg hne]]
        exact rput_new h lb n f s dl ks ee wd rh sl cp i r lo hi t x y e z w M hI hB hmay hR hm (hat _ _ _ he) hne
      | some q =>
        obtain ⟨l0, h0, a0⟩ := q
        by_cases hlt : t < a0
        · rw [show oldB (some (l0, h0, a0)) t = true from decide_eq_true hlt, if_pos rfl]
          exact (rput_old h lb n f s dl ks ee wd rh sl cp i r lo hi t l0 h0 a0 z w M hI hmay hR hm hlt).mono fun en w' ⟨h1, h2⟩ => ⟨h1, same w' h2⟩
        · rw [show oldB (some (l0, h0, a0)) t = false from decide_eq_false hlt, if_neg (by decide)]
          by_cases hne : e = 0
          · subst hne
            obtain ⟨p, v, e2, hme⟩ := meet_some x y lo hi
            have hme' : carillonref08_Meet.f 1 x y lo hi = some (p, v, e2) := by rw [rmeet_eq 0]; exact hme
            by_cases he2 : e2 = 0
            · subst he2
              rw [show newF (atF n i (2 * (n * s)) (rh + sl) M r t) lo hi t = (p, v, t) by rw [he]; unfold newF; rw [if_pos rfl]; dsimp only; rw [hme]; rfl]
              exact rput_met h lb n f s dl ks ee wd rh sl cp i r lo hi t l0 h0 a0 x y 0 p v 0 z w M hI hB hmay hR hm hlt (hat _ _ _ he) hme'
            · rw [show newF (atF n i (2 * (n * s)) (rh + sl) M r t) lo hi t = (lo, hi, t) by rw [he]; unfold newF; rw [if_pos rfl]; dsimp only; rw [hme]; exact if_neg he2]
              exact rput_apart h lb n f s dl ks ee wd rh sl cp i r lo hi t l0 h0 a0 x y 0 p v e2 z w M hI hB hmay hR hm hlt (hat _ _ _ he) hme' he2
          · rw [show newF (atF n i (2 * (n * s)) (rh + sl) M r t) lo hi t = (lo, hi, t) by rw [he]; unfold newF; rw [if_neg hne]]
            exact rput_gone h lb n f s dl ks ee wd rh sl cp i r lo hi t l0 h0 a0 x y e z w M hI hB hmay hR hm hlt (hat _ _ _ he) hne
    · rw [if_neg hR]
      exact (rput_form h lb n f s dl ks ee wd rh sl cp i r lo hi t z w M hI hmay hR).mono fun en w' ⟨h1, h2⟩ => ⟨h1, same w' h2⟩
  · rw [if_neg hmay]
    exact (rput_bad h lb n f s dl ks ee wd rh sl cp i r lo hi t z w M hI (Bool.eq_false_iff.2 hmay)).mono fun en w' ⟨h1, h2⟩ => ⟨h1, same w' h2⟩
set_option maxRecDepth 100000 in
set_option maxHeartbeats 4000000 in
theorem rnew_bad (n f s dl ks ee wd rh sl cp i : Int) (w : World) (hk : ¬ Ok n f s dl ks ee wd rh sl cp) : Calls Try.prog 32 #[.agg #[.int .i64 n, .int .i64 f, .int .i64 s, .int .i64 dl, .int .i64 ks, .int .i64 ee, .int .i64 wd, .int .i64 rh, .int .i64 sl, .int .i64 cp], .int .i64 i] w fun en w' => en = .returned (.tuple #[.pointer none, .int .i64 1]) ∧ Below w.heap.size w w' := by
  have HK : Aside0 (carillonref16_Check.f n f s dl ks ee wd rh sl cp = some 1) := ⟨rcheck_out n f s dl ks ee wd rh sl cp hk⟩
  clear hk
  go_enter Try.func32, Try.ntmps32
  go_wp2_with (first | (go_at_call 51; go_loud (refine (carillonref16_Check.calls n f s dl ks ee wd rh sl cp 1 _ HK.out).mono ?_; rintro en w1 ⟨rfl, hb⟩; have hbk := blk_below (blk_new w (.cells #[.int .i64 n, .int .i64 f, .int .i64 s, .int .i64 dl, .int .i64 ks, .int .i64 ee, .int .i64 wd, .int .i64 rh, .int .i64 sl, .int .i64 cp] 23 (0, 0))) hb; have c0 : w1.cell? ⟨w.heap.size, 0, none⟩ = some (.int .i64 n) := (blk_cell hbk 0).trans rfl; have c1 : w1.cell? ⟨w.heap.size, 1, none⟩ = some (.int .i64 f) := (blk_cell hbk 1).trans rfl; have c2 : w1.cell? ⟨w.heap.size, 2, none⟩ = some (.int .i64 s) := (blk_cell hbk 2).trans rfl; have c3 : w1.cell? ⟨w.heap.size, 3, none⟩ = some (.int .i64 dl) := (blk_cell hbk 3).trans rfl; have c4 : w1.cell? ⟨w.heap.size, 4, none⟩ = some (.int .i64 ks) := (blk_cell hbk 4).trans rfl; have c5 : w1.cell? ⟨w.heap.size, 5, none⟩ = some (.int .i64 ee) := (blk_cell hbk 5).trans rfl; have c6 : w1.cell? ⟨w.heap.size, 6, none⟩ = some (.int .i64 wd) := (blk_cell hbk 6).trans rfl; have c7 : w1.cell? ⟨w.heap.size, 7, none⟩ = some (.int .i64 rh) := (blk_cell hbk 7).trans rfl; have c8 : w1.cell? ⟨w.heap.size, 8, none⟩ = some (.int .i64 sl) := (blk_cell hbk 8).trans rfl; have c9 : w1.cell? ⟨w.heap.size, 9, none⟩ = some (.int .i64 cp) := (blk_cell hbk 9).trans rfl; have HW := Aside0.mk (below_step (below_alloc (Below.refl _ _) (.cells #[.int .i64 n, .int .i64 f, .int .i64 s, .int .i64 dl, .int .i64 ks, .int .i64 ee, .int .i64 wd, .int .i64 rh, .int .i64 sl, .int .i64 cp] 23 (0, 0))) hb); clear hb)))
  go_ret2
  exact ⟨rfl, HW.out⟩
set_option maxRecDepth 100000 in
set_option maxHeartbeats 4000000 in
theorem rnew_low (n f s dl ks ee wd rh sl cp i : Int) (w : World) (hk : Ok n f s dl ks ee wd rh sl cp) (hi : i < 0) : Calls Try.prog 32 #[.agg #[.int .i64 n, .int .i64 f, .int .i64 s, .int .i64 dl, .int .i64 ks, .int .i64 ee, .int .i64 wd, .int .i64 rh, .int .i64 sl, .int .i64 cp], .int .i64 i] w fun en w' => en = .returned (.tuple #[.pointer none, .int .i64 1]) ∧ Below w.heap.size w w' := by
  have HK : Aside0 (carillonref16_Check.f n f s dl ks ee wd rh sl cp = some 0) := ⟨rcheck_in n f s dl ks ee wd rh sl cp hk⟩
  clear hk
  go_enter Try.func32, Try.ntmps32
  go_wp2_with (first | (go_at_call 51; go_loud (refine (carillonref16_Check.calls n f s dl ks ee wd rh sl cp 0 _ HK.out).mono ?_; rintro en w1 ⟨rfl, hb⟩; have hbk := blk_below (blk_new w (.cells #[.int .i64 n, .int .i64 f, .int .i64 s, .int .i64 dl, .int .i64 ks, .int .i64 ee, .int .i64 wd, .int .i64 rh, .int .i64 sl, .int .i64 cp] 23 (0, 0))) hb; have c0 : w1.cell? ⟨w.heap.size, 0, none⟩ = some (.int .i64 n) := (blk_cell hbk 0).trans rfl; have c1 : w1.cell? ⟨w.heap.size, 1, none⟩ = some (.int .i64 f) := (blk_cell hbk 1).trans rfl; have c2 : w1.cell? ⟨w.heap.size, 2, none⟩ = some (.int .i64 s) := (blk_cell hbk 2).trans rfl; have c3 : w1.cell? ⟨w.heap.size, 3, none⟩ = some (.int .i64 dl) := (blk_cell hbk 3).trans rfl; have c4 : w1.cell? ⟨w.heap.size, 4, none⟩ = some (.int .i64 ks) := (blk_cell hbk 4).trans rfl; have c5 : w1.cell? ⟨w.heap.size, 5, none⟩ = some (.int .i64 ee) := (blk_cell hbk 5).trans rfl; have c6 : w1.cell? ⟨w.heap.size, 6, none⟩ = some (.int .i64 wd) := (blk_cell hbk 6).trans rfl; have c7 : w1.cell? ⟨w.heap.size, 7, none⟩ = some (.int .i64 rh) := (blk_cell hbk 7).trans rfl; have c8 : w1.cell? ⟨w.heap.size, 8, none⟩ = some (.int .i64 sl) := (blk_cell hbk 8).trans rfl; have c9 : w1.cell? ⟨w.heap.size, 9, none⟩ = some (.int .i64 cp) := (blk_cell hbk 9).trans rfl; have HW := Aside0.mk (below_step (below_alloc (Below.refl _ _) (.cells #[.int .i64 n, .int .i64 f, .int .i64 s, .int .i64 dl, .int .i64 ks, .int .i64 ee, .int .i64 wd, .int .i64 rh, .int .i64 sl, .int .i64 cp] 23 (0, 0))) hb); clear hb)))
  go_ret2
  exact ⟨rfl, HW.out⟩
set_option maxRecDepth 100000 in
set_option maxHeartbeats 4000000 in
theorem rnew_high (n f s dl ks ee wd rh sl cp i : Int) (w : World) (hk : Ok n f s dl ks ee wd rh sl cp) (i0 : 0 ≤ i) (hi : n ≤ i) : Calls Try.prog 32 #[.agg #[.int .i64 n, .int .i64 f, .int .i64 s, .int .i64 dl, .int .i64 ks, .int .i64 ee, .int .i64 wd, .int .i64 rh, .int .i64 sl, .int .i64 cp], .int .i64 i] w fun en w' => en = .returned (.tuple #[.pointer none, .int .i64 1]) ∧ Below w.heap.size w w' := by
  have HK : Aside0 (carillonref16_Check.f n f s dl ks ee wd rh sl cp = some 0) := ⟨rcheck_in n f s dl ks ee wd rh sl cp hk⟩
  clear hk
  go_enter Try.func32, Try.ntmps32
  go_wp2_with (first | (go_at_call 51; go_loud (refine (carillonref16_Check.calls n f s dl ks ee wd rh sl cp 0 _ HK.out).mono ?_; rintro en w1 ⟨rfl, hb⟩; have hbk := blk_below (blk_new w (.cells #[.int .i64 n, .int .i64 f, .int .i64 s, .int .i64 dl, .int .i64 ks, .int .i64 ee, .int .i64 wd, .int .i64 rh, .int .i64 sl, .int .i64 cp] 23 (0, 0))) hb; have c0 : w1.cell? ⟨w.heap.size, 0, none⟩ = some (.int .i64 n) := (blk_cell hbk 0).trans rfl; have c1 : w1.cell? ⟨w.heap.size, 1, none⟩ = some (.int .i64 f) := (blk_cell hbk 1).trans rfl; have c2 : w1.cell? ⟨w.heap.size, 2, none⟩ = some (.int .i64 s) := (blk_cell hbk 2).trans rfl; have c3 : w1.cell? ⟨w.heap.size, 3, none⟩ = some (.int .i64 dl) := (blk_cell hbk 3).trans rfl; have c4 : w1.cell? ⟨w.heap.size, 4, none⟩ = some (.int .i64 ks) := (blk_cell hbk 4).trans rfl; have c5 : w1.cell? ⟨w.heap.size, 5, none⟩ = some (.int .i64 ee) := (blk_cell hbk 5).trans rfl; have c6 : w1.cell? ⟨w.heap.size, 6, none⟩ = some (.int .i64 wd) := (blk_cell hbk 6).trans rfl; have c7 : w1.cell? ⟨w.heap.size, 7, none⟩ = some (.int .i64 rh) := (blk_cell hbk 7).trans rfl; have c8 : w1.cell? ⟨w.heap.size, 8, none⟩ = some (.int .i64 sl) := (blk_cell hbk 8).trans rfl; have c9 : w1.cell? ⟨w.heap.size, 9, none⟩ = some (.int .i64 cp) := (blk_cell hbk 9).trans rfl; have HW := Aside0.mk (below_step (below_alloc (Below.refl _ _) (.cells #[.int .i64 n, .int .i64 f, .int .i64 s, .int .i64 dl, .int .i64 ks, .int .i64 ee, .int .i64 wd, .int .i64 rh, .int .i64 sl, .int .i64 cp] 23 (0, 0))) hb); clear hb)))
  go_ret2
  exact ⟨rfl, HW.out⟩
theorem rnew_not (n f s dl ks ee wd rh sl cp i : Int) (w : World) (hq : ¬ (Ok n f s dl ks ee wd rh sl cp ∧ 0 ≤ i ∧ i < n)) : Calls Try.prog 32 #[.agg #[.int .i64 n, .int .i64 f, .int .i64 s, .int .i64 dl, .int .i64 ks, .int .i64 ee, .int .i64 wd, .int .i64 rh, .int .i64 sl, .int .i64 cp], .int .i64 i] w fun en w' => en = .returned (.tuple #[.pointer none, .int .i64 1]) ∧ Below w.heap.size w w' := by
  by_cases hk : Ok n f s dl ks ee wd rh sl cp
  · by_cases i0 : 0 ≤ i
    · exact rnew_high n f s dl ks ee wd rh sl cp i w hk i0 (by by_cases h1 : i < n; exact absurd ⟨hk, i0, h1⟩ hq; omega)
    · exact rnew_low n f s dl ks ee wd rh sl cp i w hk (by omega)
  · exact rnew_bad n f s dl ks ee wd rh sl cp i w hk
set_option maxRecDepth 100000 in
set_option maxHeartbeats 8000000 in
theorem rnew_yes (n f s dl ks ee wd rh sl cp i : Int) (w : World) (hk : Ok n f s dl ks ee wd rh sl cp) (i0 : 0 ≤ i) (i1 : i < n) : Calls Try.prog 32 #[.agg #[.int .i64 n, .int .i64 f, .int .i64 s, .int .i64 dl, .int .i64 ks, .int .i64 ee, .int .i64 wd, .int .i64 rh, .int .i64 sl, .int .i64 cp], .int .i64 i] w fun en w' => ∃ h lb, en = .returned (.tuple #[.pointer (some ⟨h, 0, none⟩), .int .i64 0]) ∧ IsRf w w' h lb n f s dl ks ee wd rh sl cp i (fun _ => none) ∧ Below w.heap.size w w' := by
  have hn : 1 ≤ n ∧ n ≤ 8 := by unfold Ok at hk; omega
  obtain ⟨n0, n8⟩ := hn
  have HK : Aside0 (carillonref16_Check.f n f s dl ks ee wd rh sl cp = some 0) := ⟨rcheck_in n f s dl ks ee wd rh sl cp hk⟩
  clear hk
  obtain ⟨i3, hi, hz0, hz1, hz2⟩ := info_parts info116
  go_enter Try.func32, Try.ntmps32
  go_upto_region 3 with (first | (go_at_call 51; go_loud (refine (carillonref16_Check.calls n f s dl ks ee wd rh sl cp 0 _ HK.out).mono ?_; rintro en w1 ⟨rfl, hb⟩; have hbk := blk_below (blk_new w (.cells #[.int .i64 n, .int .i64 f, .int .i64 s, .int .i64 dl, .int .i64 ks, .int .i64 ee, .int .i64 wd, .int .i64 rh, .int .i64 sl, .int .i64 cp] 23 (0, 0))) hb; have c0 : w1.cell? ⟨w.heap.size, 0, none⟩ = some (.int .i64 n) := (blk_cell hbk 0).trans rfl; have c1 : w1.cell? ⟨w.heap.size, 1, none⟩ = some (.int .i64 f) := (blk_cell hbk 1).trans rfl; have c2 : w1.cell? ⟨w.heap.size, 2, none⟩ = some (.int .i64 s) := (blk_cell hbk 2).trans rfl; have c3 : w1.cell? ⟨w.heap.size, 3, none⟩ = some (.int .i64 dl) := (blk_cell hbk 3).trans rfl; have c4 : w1.cell? ⟨w.heap.size, 4, none⟩ = some (.int .i64 ks) := (blk_cell hbk 4).trans rfl; have c5 : w1.cell? ⟨w.heap.size, 5, none⟩ = some (.int .i64 ee) := (blk_cell hbk 5).trans rfl; have c6 : w1.cell? ⟨w.heap.size, 6, none⟩ = some (.int .i64 wd) := (blk_cell hbk 6).trans rfl; have c7 : w1.cell? ⟨w.heap.size, 7, none⟩ = some (.int .i64 rh) := (blk_cell hbk 7).trans rfl; have c8 : w1.cell? ⟨w.heap.size, 8, none⟩ = some (.int .i64 sl) := (blk_cell hbk 8).trans rfl; have c9 : w1.cell? ⟨w.heap.size, 9, none⟩ = some (.int .i64 cp) := (blk_cell hbk 9).trans rfl; have HW := Aside0.mk (below_step (below_alloc (Below.refl _ _) (.cells #[.int .i64 n, .int .i64 f, .int .i64 s, .int .i64 dl, .int .i64 ks, .int .i64 ee, .int .i64 wd, .int .i64 rh, .int .i64 sl, .int .i64 cp] 23 (0, 0))) hb); clear hb)))
  obtain ⟨w2, hmk, hown, hgw⟩ := run_make_full (P := Try.prog) w1.drew w1.heap.size 112 116 i3 (.agg #[.bool false, .int .i64 0, .int .i64 0, .int .i64 0]) 4 Try.underlying112 hi hz0 hz1 .i64 .i64 n.toNat (by rw [hz2]; omega) (by unfold maxLen; omega) (Nat.le_refl _)
  rw [show ((n.toNat : Nat) : Int) = n by omega] at hmk
  have HMK := Aside0.mk (made_all hown (by omega))
  have HG := Aside0.mk hgw
  have hb2 := blk_grown (blk_drew hbk) hgw (by simp)
  have d0 : w2.cell? ⟨w.heap.size, 0, none⟩ = some (.int .i64 n) := (blk_cell hb2 0).trans rfl; have d1 : w2.cell? ⟨w.heap.size, 1, none⟩ = some (.int .i64 f) := (blk_cell hb2 1).trans rfl; have d2 : w2.cell? ⟨w.heap.size, 2, none⟩ = some (.int .i64 s) := (blk_cell hb2 2).trans rfl; have d3 : w2.cell? ⟨w.heap.size, 3, none⟩ = some (.int .i64 dl) := (blk_cell hb2 3).trans rfl; have d4 : w2.cell? ⟨w.heap.size, 4, none⟩ = some (.int .i64 ks) := (blk_cell hb2 4).trans rfl; have d5 : w2.cell? ⟨w.heap.size, 5, none⟩ = some (.int .i64 ee) := (blk_cell hb2 5).trans rfl; have d6 : w2.cell? ⟨w.heap.size, 6, none⟩ = some (.int .i64 wd) := (blk_cell hb2 6).trans rfl; have d7 : w2.cell? ⟨w.heap.size, 7, none⟩ = some (.int .i64 rh) := (blk_cell hb2 7).trans rfl; have d8 : w2.cell? ⟨w.heap.size, 8, none⟩ = some (.int .i64 sl) := (blk_cell hb2 8).trans rfl; have d9 : w2.cell? ⟨w.heap.size, 9, none⟩ = some (.int .i64 cp) := (blk_cell hb2 9).trans rfl
  clear hown hgw hb2 hbk
  go_region
  all_goals
    go_wp2
    go_ret2
    have hs1 := HW.out.size
    have hs2 := HG.out.size
    have hs3 : w1.heap.size ≤ w2.heap.size := hs2
    refine ⟨_, w1.heap.size, rfl, ⟨by first | exact blk_new _ _ | exact blk_drew (blk_new _ _), by first | exact blk_alloc HMK.out _ | exact blk_drew (blk_alloc HMK.out _), by first | (simp; omega) | omega, hs1⟩, ?_⟩
    first
      | exact below_alloc ((below_drew1 HW.out).grown HG.out hs1 (fun j e => by cases e)) _
      | exact below_drew1 (below_alloc ((below_drew1 HW.out).grown HG.out hs1 (fun j e => by cases e)) _)
end Go.Proofs.Ytfaikkhnlioajaa.Rp
