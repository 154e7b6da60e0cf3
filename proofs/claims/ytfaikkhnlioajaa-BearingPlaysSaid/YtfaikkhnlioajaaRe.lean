/- The reference clears, and tells the most. -/
import Derived.Test.YtfaikkhnlioajaaProg
import Derived.Below
import Derived.Deep.Draws
import Derived.Deep.AppendLies
import Derived.Maps.AppendAt
import Derived.OwnWalk
import Derived.Laws.BytesArg
import Derived.Laws.MakeOwn
import Derived.Laws.OwnMore
import Derived.Deep.OwnRows
import Derived.Tactics
import Derived.Lib.ConvBytes
import Derived.Laws.Slices
import Derived.WalkKit
import Derived.KernelRfl
import Derived.RowKit3
import Derived.Deep.LoopGhost
import Derived.Deep.QuietTactic
import Derived.BigQuiet
import Derived.WideLaws
import Derived.Deep.DeepCutAuto
import Derived.Deep.CutBlock
import Derived.Deep.RegionHeld3
import Derived.Laws.Rows
import Derived.Lib.AppendStr
import Derived.ArgAppend
import Derived.Laws.IdiomCopy
import Derived.OrdersHeld
import Derived.Laws.BitsLemmas
import Derived.RowKit
import Derived.RegionTactic
import Derived.ChangeAlike
import Derived.Outline
import Derived.LoopTactic
import Derived.WalkSpells
import Derived.WalkLawsBesides
import Derived.Lib.Hide
import Derived.StillTailTactics
import Derived.Deep.RegionWith
import Derived.Deep.RegionLaw
import Derived.Deep.DeepFit
import Derived.Deep.DeepMust
import Derived.Test.YtfaikkhnlioajaaWWords
import Derived.Test.YtfaikkhnlioajaaWLast
import Derived.Test.YtfaikkhnlioajaaWTab
import Derived.Test.YtfaikkhnlioajaaWFour
import Derived.Test.YtfaikkhnlioajaaWQPut
import Derived.Test.YtfaikkhnlioajaaWApart
import Derived.Test.YtfaikkhnlioajaaWArr
import Derived.Test.YtfaikkhnlioajaaWZeros
import Derived.Test.YtfaikkhnlioajaaWFoot
import Derived.Test.YtfaikkhnlioajaaWKept
import Derived.Test.YtfaikkhnlioajaaWShare
import Derived.Test.YtfaikkhnlioajaaWN
import Derived.Test.YtfaikkhnlioajaaWFootNe
import Derived.Test.YtfaikkhnlioajaaWAt
import Derived.Test.YtfaikkhnlioajaaWEqStruct
import Derived.Test.YtfaikkhnlioajaaWRepsOne
import Derived.Test.YtfaikkhnlioajaaWInv
import Derived.Test.YtfaikkhnlioajaaWInvWords
import Derived.Test.YtfaikkhnlioajaaWGuard
import Derived.Test.YtfaikkhnlioajaaWNEv
import Derived.Test.YtfaikkhnlioajaaWMore
import Derived.Test.YtfaikkhnlioajaaRc
namespace Go.Proofs.Ytfaikkhnlioajaa.Re
open Go.RowKit Go.Proofs.YtfaikkhnlioajaaW.PrintWords Go.Proofs.YtfaikkhnlioajaaW.PrintLast Go.Proofs.YtfaikkhnlioajaaW.PrintMore 
attribute [local go_sem] max2_int min2_int max_two min_two max_three min_three max_four min_four
set_option linter.unusedVariables false
set_option linter.unusedSimpArgs false
open Go.Proofs.Ytfaikkhnlioajaa.QBase Go.Proofs.Ytfaikkhnlioajaa.Sch Go.Proofs.Ytfaikkhnlioajaa.Plc Go.Proofs.Ytfaikkhnlioajaa.Gd1 Go.Proofs.Ytfaikkhnlioajaa.Gd3 Go.Proofs.Ytfaikkhnlioajaa.Gd4 Go.Proofs.Ytfaikkhnlioajaa.BrP Go.Proofs.Ytfaikkhnlioajaa.Br1 Go.Proofs.Ytfaikkhnlioajaa.Br2 Go.Proofs.Ytfaikkhnlioajaa.Br4 Go.Proofs.Ytfaikkhnlioajaa.Ra Go.Proofs.Ytfaikkhnlioajaa.Rb Go.Proofs.Ytfaikkhnlioajaa.Rc Go.Maps
attribute [local go_sem] cellS1 frozenS1 cellS2 frozenS2 cellS3 frozenS3 cellS4 frozenS4 cellS5 frozenS5 cellS6 frozenS6

theorem info116 : (Try.prog.info? 116).map (fun i => (i.zero, i.size, i.bytes)) = some (some (.agg #[.bool false, .int .i64 0, .int .i64 0, .int .i64 0]), 4, 32) := by kernel_rfl
set_option maxRecDepth 100000 in
set_option maxHeartbeats 4000000 in
theorem rmost_no (h lb : Nat) (n f s dl ks ee wd rh sl cp i : Int) (r t x y e : Int) (z w : World) (M : KM) (hI : IsRf z w h lb n f s dl ks ee wd rh sl cp i M) (hMo : KOk M) (hk : Ok n f s dl ks ee wd rh sl cp) (ha : atF n i (2 * (n * s)) (rh + sl) M r t = (x, y, e)) (he : e ≠ 0) : Calls Try.prog 37 #[.pointer (some ⟨h, 0, none⟩), .int .i64 r, .int .i64 t] w fun en w' => en = .returned (.tuple #[.int .i64 0, .int .i64 e]) ∧ Below w.heap.size w w' := by
  have heb : (e != 0) = true := bne_iff_ne.2 he
  have H := Aside0.mk (rat_any h lb n f s dl ks ee wd rh sl cp i r t x y e z w M hI hMo hk ha)
  clear hI hMo hk ha he
  go_enter Try.func37, Try.ntmps37
  go_wp2_with (first | (go_at_call 36; go_loud (refine H.out.mono ?_; rintro en w1 ⟨rfl, hb⟩; have HB := Aside0.mk hb; clear hb)))
  go_ret2
  exact ⟨rfl, below_alloc HB.out _⟩
set_option maxRecDepth 100000 in
set_option maxHeartbeats 4000000 in
theorem rmost_ok (h lb : Nat) (n f s dl ks ee wd rh sl cp i : Int) (r t x y : Int) (z w : World) (M : KM) (hI : IsRf z w h lb n f s dl ks ee wd rh sl cp i M) (hMo : KOk M) (hk : Ok n f s dl ks ee wd rh sl cp) (ha : atF n i (2 * (n * s)) (rh + sl) M r t = (x, y, 0)) : Calls Try.prog 37 #[.pointer (some ⟨h, 0, none⟩), .int .i64 r, .int .i64 t] w fun en w' => en = .returned (.tuple #[.int .i64 (mx (t + y) 0), .int .i64 0]) ∧ Below w.heap.size w w' := by
  obtain ⟨hR, t0, t1⟩ := atF_R ha
  unfold R at hR
  obtain ⟨h0, h1, h2⟩ := hR
  have H := Aside0.mk (rat_any h lb n f s dl ks ee wd rh sl cp i r t x y 0 z w M hI hMo hk ha)
  clear hI hMo hk ha
  go_enter Try.func37, Try.ntmps37
  go_wp2_with (first | (go_at_call 36; go_loud (refine H.out.mono ?_; rintro en w1 ⟨rfl, hb⟩; have HB := Aside0.mk hb; clear hb)))
  all_goals
    go_ret2
    exact ⟨ret2 (by unfold mx; (try split) <;> omega), below_alloc HB.out _⟩
theorem rmost_any (h lb : Nat) (n f s dl ks ee wd rh sl cp i : Int) (r t x y e p q : Int) (z w : World) (M : KM) (hI : IsRf z w h lb n f s dl ks ee wd rh sl cp i M) (hMo : KOk M) (hk : Ok n f s dl ks ee wd rh sl cp) (ha : atF n i (2 * (n * s)) (rh + sl) M r t = (x, y, e)) (hq : mostF (x, y, e) t = (p, q)) : Calls Try.prog 37 #[.pointer (some ⟨h, 0, none⟩), .int .i64 r, .int .i64 t] w fun en w' => en = .returned (.tuple #[.int .i64 p, .int .i64 q]) ∧ Below w.heap.size w w' := by
  unfold mostF at hq
  by_cases he : e = 0
  · rw [if_pos he] at hq
    cases hq
    subst he
    exact rmost_ok h lb n f s dl ks ee wd rh sl cp i r t x y z w M hI hMo hk ha
  · rw [if_neg he] at hq
    cases hq
    exact rmost_no h lb n f s dl ks ee wd rh sl cp i r t x y e z w M hI hMo hk ha he
theorem kvl_none (m : Nat) : kvl (fun _ => none) m = (madeCells #[.bool false, .int .i64 0, .int .i64 0, .int .i64 0] (m * 4)).toList := by
  apply List.ext_getElem?
  intro k
  by_cases hk : k < m * 4
  · obtain ⟨j, c, hj, hc, rfl⟩ : ∃ j c, j < m ∧ c < 4 ∧ k = j * 4 + c := ⟨k / 4, k % 4, by omega, by omega, by omega⟩
    rw [kvl_get _ m j c hj hc]
    unfold madeCells
    match c, hc with
    | 0, _ => have hk2 : j * 4 < m * 4 := by omega
              simp [hk2, kv]
    | 1, _ => simp [hk, kv]
    | 2, _ => simp [hk, kv]
    | 3, _ => simp [hk, kv]
  · rw [List.getElem?_eq_none (by rw [kvl_len]; omega), List.getElem?_eq_none (by unfold madeCells; simp; omega)]
theorem made_all {W : World} {b m : Nat} (h : W.ownsRow b 116 4 (.slice (some ⟨b, 0, none⟩) m m) m (madeCells #[.bool false, .int .i64 0, .int .i64 0, .int .i64 0] (m * 4)).toList) (hm : 1 ≤ m) : W.heap[b]? = some (.cells (kvl (fun _ => none) m).toArray 116 (0, 0)) := by
  rw [kvl_none]
  rcases h.2 with ⟨e, _⟩ | ⟨g, cap, cur, e, _, hg, _, _, hs, ht⟩
  · cases e
  · cases e
    rw [hg, ← ht, ← hs, ← Array.length_toList, List.take_length]
set_option maxRecDepth 100000 in
set_option maxHeartbeats 4000000 in
theorem rclear_ok (h lb : Nat) (n f s dl ks ee wd rh sl cp i : Int) (z w : World) (M : KM) (hI : IsRf z w h lb n f s dl ks ee wd rh sl cp i M) (hk : Ok n f s dl ks ee wd rh sl cp) (hB : Below z.heap.size z w) : Calls Try.prog 34 #[.pointer (some ⟨h, 0, none⟩)] w fun en w' => ∃ l', en = .returned (.tuple #[]) ∧ IsRf z w' h l' n f s dl ks ee wd rh sl cp i (fun _ => none) ∧ Below z.heap.size z w' ∧ w.grownBy w' (some h) := by
  obtain ⟨i0, hi, hz0, hz1, hz2⟩ := info_parts info116
  have hn : 1 ≤ n ∧ n ≤ 8 := by unfold Ok at hk; omega
  obtain ⟨n0, n8⟩ := hn
  obtain ⟨w1, hmk, hown, hgw⟩ := run_make_full (P := Try.prog) w w.heap.size 112 116 i0 (.agg #[.bool false, .int .i64 0, .int .i64 0, .int .i64 0]) 4 Try.underlying112 hi hz0 hz1 .i64 .i64 n.toNat (by rw [hz2]; omega) (by unfold maxLen; omega) (Nat.le_refl _)
  rw [show ((n.toNat : Nat) : Int) = n by omega] at hmk
  have hhl := blk_lt hI.1
  have H1 := blk_grown hI.1 hgw (by simp)
  have c0 : w.cell? ⟨h, 0, none⟩ = some (.int .i64 n) := (blk_cell hI.1 0).trans rfl
  have c11 : w1.cell? ⟨h, 11, none⟩ = some (.slice (some ⟨lb, 0, none⟩) n.toNat n.toNat) := (blk_cell H1 11).trans rfl
  have f11 : w1.frozen? ⟨h, 11, none⟩ = false := blk_frozen H1 11
  have HM := Aside0.mk (made_all hown (by omega))
  have HG := Aside0.mk hgw
  have HH := Aside0.mk H1
  have HI := Aside0.mk hI
  have HB := Aside0.mk hB
  clear hI hB hown hgw H1 hk
  go_enter Try.func34, Try.ntmps34
  go_wp2
  go_end0
  have hsz := HB.out.size
  refine ⟨w.heap.size, rfl, ⟨blk_put HH.out 11 _ rfl, blk_far HM.out (by show w.heap.size ≠ h; omega) _, HI.out.2.2.1, hsz⟩, ?_, ?_⟩
  · exact (HB.out.grown HG.out hsz (fun j e => by cases e)).setCell (p := ⟨h, 11, none⟩) HI.out.2.2.1 _
  · exact ⟨HG.out.os, HG.out.tape, HG.out.output, Nat.le_trans HG.out.size (by simp), fun j hj hne => (Below.heap_setCell _ _ _ j (fun e => hne (by subst e; rfl))).trans (HG.out.block j hj (by simp))⟩
end Go.Proofs.Ytfaikkhnlioajaa.Re
