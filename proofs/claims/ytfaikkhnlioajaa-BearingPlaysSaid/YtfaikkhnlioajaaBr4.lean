/- What a table tells of another one. -/
import Derived.Test.YtfaikkhnlioajaaProg
import Derived.Below
import Derived.Deep.Draws
import Derived.Deep.AppendLies
import Derived.Maps.AppendAt
import Derived.OwnWalk
import Derived.Laws.BytesArg
import Derived.Laws.MakeOwn
import Derived.Laws.OwnMore
import Derived.Deep.OwnRows
import Derived.Tactics
import Derived.Lib.ConvBytes
import Derived.Laws.Slices
import Derived.WalkKit
import Derived.KernelRfl
import Derived.RowKit3
import Derived.Deep.LoopGhost
import Derived.Deep.QuietTactic
import Derived.BigQuiet
import Derived.WideLaws
import Derived.Deep.DeepCutAuto
import Derived.Deep.CutBlock
import Derived.Deep.RegionHeld3
import Derived.Laws.Rows
import Derived.Lib.AppendStr
import Derived.ArgAppend
import Derived.Laws.IdiomCopy
import Derived.OrdersHeld
import Derived.Laws.BitsLemmas
import Derived.RowKit
import Derived.RegionTactic
import Derived.ChangeAlike
import Derived.Outline
import Derived.LoopTactic
import Derived.WalkSpells
import Derived.WalkLawsBesides
import Derived.Lib.Hide
import Derived.StillTailTactics
import Derived.Deep.RegionWith
import Derived.Deep.RegionLaw
import Derived.Deep.DeepFit
import Derived.Deep.DeepMust
import Derived.Test.YtfaikkhnlioajaaWWords
import Derived.Test.YtfaikkhnlioajaaWLast
import Derived.Test.YtfaikkhnlioajaaWTab
import Derived.Test.YtfaikkhnlioajaaWFour
import Derived.Test.YtfaikkhnlioajaaWQPut
import Derived.Test.YtfaikkhnlioajaaWApart
import Derived.Test.YtfaikkhnlioajaaWArr
import Derived.Test.YtfaikkhnlioajaaWZeros
import Derived.Test.YtfaikkhnlioajaaWFoot
import Derived.Test.YtfaikkhnlioajaaWKept
import Derived.Test.YtfaikkhnlioajaaWShare
import Derived.Test.YtfaikkhnlioajaaWN
import Derived.Test.YtfaikkhnlioajaaWFootNe
import Derived.Test.YtfaikkhnlioajaaWAt
import Derived.Test.YtfaikkhnlioajaaWEqStruct
import Derived.Test.YtfaikkhnlioajaaWRepsOne
import Derived.Test.YtfaikkhnlioajaaWInv
import Derived.Test.YtfaikkhnlioajaaWInvWords
import Derived.Test.YtfaikkhnlioajaaWGuard
import Derived.Test.YtfaikkhnlioajaaWNEv
import Derived.Test.YtfaikkhnlioajaaWMore
import Derived.Test.YtfaikkhnlioajaaBr3
namespace Go.Proofs.Ytfaikkhnlioajaa.Br4
open Go.RowKit Go.Proofs.YtfaikkhnlioajaaW.PrintWords Go.Proofs.YtfaikkhnlioajaaW.PrintLast Go.Proofs.YtfaikkhnlioajaaW.PrintMore 
attribute [local go_sem] max2_int min2_int max_two min_two max_three min_three max_four min_four
set_option linter.unusedVariables false
set_option linter.unusedSimpArgs false
open Go.Proofs.Ytfaikkhnlioajaa.QBase Go.Proofs.Ytfaikkhnlioajaa.Sch Go.Proofs.Ytfaikkhnlioajaa.Plc Go.Proofs.Ytfaikkhnlioajaa.Gd1 Go.Proofs.Ytfaikkhnlioajaa.Gd2 Go.Proofs.Ytfaikkhnlioajaa.Gd3 Go.Proofs.Ytfaikkhnlioajaa.Gd4 Go.Proofs.Ytfaikkhnlioajaa.BrP Go.Proofs.Ytfaikkhnlioajaa.Br1 Go.Proofs.Ytfaikkhnlioajaa.Br2 Go.Proofs.Ytfaikkhnlioajaa.Br3 Go.Maps
attribute [local go_sem] cellS1 frozenS1 cellS2 frozenS2 cellS3 frozenS3 cellS4 frozenS4 cellS5 frozenS5 cellS6 frozenS6
set_option maxRecDepth 100000 in
set_option maxHeartbeats 4000000 in
theorem new_yes (n f s dl ks ee wd rh sl cp i : Int) (w : World) (hk : Ok n f s dl ks ee wd rh sl cp) (i0 : 0 ≤ i) (i1 : i < n) : Calls Try.prog 22 #[.agg #[.int .i64 n, .int .i64 f, .int .i64 s, .int .i64 dl, .int .i64 ks, .int .i64 ee, .int .i64 wd, .int .i64 rh, .int .i64 sl, .int .i64 cp], .int .i64 i] w fun en w' => ∃ g bm, en = .returned (.tuple #[.pointer (some ⟨g, 0, none⟩), .int .i64 0]) ∧ IsT w w' g bm n f s dl ks ee wd rh sl cp i ∧ w'.heap[bm]? = some (.map #[] 0) ∧ w.heap.size ≤ bm ∧ Below w.heap.size w w' := by
  have HK := Aside0.mk (check_in 0 n f s dl ks ee wd rh sl cp hk)
  have hmm := @run_makeMap Try.prog
  clear hk
  go_enter Try.func22, Try.ntmps22
  go_wp2_with (first | (go_at_call 46; go_loud (refine (sched_Check.calls 3 n f s dl ks ee wd rh sl cp 0 _ HK.out).mono ?_; rintro en w1 ⟨rfl, hb⟩; have hbk := blk_below (blk_new w (.cells #[.int .i64 n, .int .i64 f, .int .i64 s, .int .i64 dl, .int .i64 ks, .int .i64 ee, .int .i64 wd, .int .i64 rh, .int .i64 sl, .int .i64 cp] 23 (0, 0))) hb; have c0 : w1.cell? ⟨w.heap.size, 0, none⟩ = some (.int .i64 n) := (blk_cell hbk 0).trans rfl; have c1 : w1.cell? ⟨w.heap.size, 1, none⟩ = some (.int .i64 f) := (blk_cell hbk 1).trans rfl; have c2 : w1.cell? ⟨w.heap.size, 2, none⟩ = some (.int .i64 s) := (blk_cell hbk 2).trans rfl; have c3 : w1.cell? ⟨w.heap.size, 3, none⟩ = some (.int .i64 dl) := (blk_cell hbk 3).trans rfl; have c4 : w1.cell? ⟨w.heap.size, 4, none⟩ = some (.int .i64 ks) := (blk_cell hbk 4).trans rfl; have c5 : w1.cell? ⟨w.heap.size, 5, none⟩ = some (.int .i64 ee) := (blk_cell hbk 5).trans rfl; have c6 : w1.cell? ⟨w.heap.size, 6, none⟩ = some (.int .i64 wd) := (blk_cell hbk 6).trans rfl; have c7 : w1.cell? ⟨w.heap.size, 7, none⟩ = some (.int .i64 rh) := (blk_cell hbk 7).trans rfl; have c8 : w1.cell? ⟨w.heap.size, 8, none⟩ = some (.int .i64 sl) := (blk_cell hbk 8).trans rfl; have c9 : w1.cell? ⟨w.heap.size, 9, none⟩ = some (.int .i64 cp) := (blk_cell hbk 9).trans rfl; have HW := Aside0.mk (below_step (below_alloc (Below.refl _ _) (.cells #[.int .i64 n, .int .i64 f, .int .i64 s, .int .i64 dl, .int .i64 ks, .int .i64 ee, .int .i64 wd, .int .i64 rh, .int .i64 sl, .int .i64 cp] 23 (0, 0))) hb); clear hb)))
  go_ret2
  have hsz := HW.out.size
  exact ⟨_, w1.heap.size, rfl, ⟨by first | exact blk_new _ _ | (rw [← World.size_alloc w1 (.map #[] 0)]; exact blk_new _ _), by first | omega | (simp; omega)⟩, blk_alloc (blk_new w1 (.map #[] 0)) _, hsz, below_alloc (below_alloc HW.out _) _⟩
set_option maxRecDepth 100000 in
set_option maxHeartbeats 4000000 in
theorem new_bad (n f s dl ks ee wd rh sl cp i : Int) (w : World) (hk : ¬ Ok n f s dl ks ee wd rh sl cp) : Calls Try.prog 22 #[.agg #[.int .i64 n, .int .i64 f, .int .i64 s, .int .i64 dl, .int .i64 ks, .int .i64 ee, .int .i64 wd, .int .i64 rh, .int .i64 sl, .int .i64 cp], .int .i64 i] w fun en w' => en = .returned (.tuple #[.pointer none, .int .i64 1]) ∧ Below w.heap.size w w' := by
  have HK := Aside0.mk (check_out 0 n f s dl ks ee wd rh sl cp hk)
  clear hk
  go_enter Try.func22, Try.ntmps22
  go_wp2_with (first | (go_at_call 46; go_loud (refine (sched_Check.calls 3 n f s dl ks ee wd rh sl cp 1 _ HK.out).mono ?_; rintro en w1 ⟨rfl, hb⟩; have hbk := blk_below (blk_new w (.cells #[.int .i64 n, .int .i64 f, .int .i64 s, .int .i64 dl, .int .i64 ks, .int .i64 ee, .int .i64 wd, .int .i64 rh, .int .i64 sl, .int .i64 cp] 23 (0, 0))) hb; have c0 : w1.cell? ⟨w.heap.size, 0, none⟩ = some (.int .i64 n) := (blk_cell hbk 0).trans rfl)))
  go_ret2
  exact ⟨rfl, below_step (below_alloc (Below.refl _ _) _) hb⟩
set_option maxRecDepth 100000 in
set_option maxHeartbeats 4000000 in
theorem new_low (n f s dl ks ee wd rh sl cp i : Int) (w : World) (hk : Ok n f s dl ks ee wd rh sl cp) (h : i < 0) : Calls Try.prog 22 #[.agg #[.int .i64 n, .int .i64 f, .int .i64 s, .int .i64 dl, .int .i64 ks, .int .i64 ee, .int .i64 wd, .int .i64 rh, .int .i64 sl, .int .i64 cp], .int .i64 i] w fun en w' => en = .returned (.tuple #[.pointer none, .int .i64 1]) ∧ Below w.heap.size w w' := by
  have HK := Aside0.mk (check_in 0 n f s dl ks ee wd rh sl cp hk)
  clear hk
  go_enter Try.func22, Try.ntmps22
  go_wp2_with (first | (go_at_call 46; go_loud (refine (sched_Check.calls 3 n f s dl ks ee wd rh sl cp 0 _ HK.out).mono ?_; rintro en w1 ⟨rfl, hb⟩; have hbk := blk_below (blk_new w (.cells #[.int .i64 n, .int .i64 f, .int .i64 s, .int .i64 dl, .int .i64 ks, .int .i64 ee, .int .i64 wd, .int .i64 rh, .int .i64 sl, .int .i64 cp] 23 (0, 0))) hb; have c0 : w1.cell? ⟨w.heap.size, 0, none⟩ = some (.int .i64 n) := (blk_cell hbk 0).trans rfl)))
  go_ret2
  exact ⟨rfl, below_step (below_alloc (Below.refl _ _) _) hb⟩
set_option maxRecDepth 100000 in
set_option maxHeartbeats 4000000 in
theorem new_high (n f s dl ks ee wd rh sl cp i : Int) (w : World) (hk : Ok n f s dl ks ee wd rh sl cp) (i0 : 0 ≤ i) (h : n ≤ i) : Calls Try.prog 22 #[.agg #[.int .i64 n, .int .i64 f, .int .i64 s, .int .i64 dl, .int .i64 ks, .int .i64 ee, .int .i64 wd, .int .i64 rh, .int .i64 sl, .int .i64 cp], .int .i64 i] w fun en w' => en = .returned (.tuple #[.pointer none, .int .i64 1]) ∧ Below w.heap.size w w' := by
  have HK := Aside0.mk (check_in 0 n f s dl ks ee wd rh sl cp hk)
  clear hk
  go_enter Try.func22, Try.ntmps22
  go_wp2_with (first | (go_at_call 46; go_loud (refine (sched_Check.calls 3 n f s dl ks ee wd rh sl cp 0 _ HK.out).mono ?_; rintro en w1 ⟨rfl, hb⟩; have hbk := blk_below (blk_new w (.cells #[.int .i64 n, .int .i64 f, .int .i64 s, .int .i64 dl, .int .i64 ks, .int .i64 ee, .int .i64 wd, .int .i64 rh, .int .i64 sl, .int .i64 cp] 23 (0, 0))) hb; have c0 : w1.cell? ⟨w.heap.size, 0, none⟩ = some (.int .i64 n) := (blk_cell hbk 0).trans rfl)))
  go_ret2
  exact ⟨rfl, below_step (below_alloc (Below.refl _ _) _) hb⟩
theorem new_not (n f s dl ks ee wd rh sl cp i : Int) (w : World) (h : ¬ (Ok n f s dl ks ee wd rh sl cp ∧ 0 ≤ i ∧ i < n)) : Calls Try.prog 22 #[.agg #[.int .i64 n, .int .i64 f, .int .i64 s, .int .i64 dl, .int .i64 ks, .int .i64 ee, .int .i64 wd, .int .i64 rh, .int .i64 sl, .int .i64 cp], .int .i64 i] w fun en w' => en = .returned (.tuple #[.pointer none, .int .i64 1]) ∧ Below w.heap.size w w' := by
  by_cases hk : Ok n f s dl ks ee wd rh sl cp
  · by_cases i0 : 0 ≤ i
    · exact new_high n f s dl ks ee wd rh sl cp i w hk i0 (by by_cases h1 : i < n; exact absurd ⟨hk, i0, h1⟩ h; omega)
    · exact new_low n f s dl ks ee wd rh sl cp i w hk (by omega)
  · exact new_bad n f s dl ks ee wd rh sl cp i w hk

abbrev KM := Int → Option (Int × Int × Int)
/-- What is known was so at a time that may be, and is an interval. -/
def KOk (M : KM) : Prop := ∀ r lo hi a, M r = some (lo, hi, a) → 0 ≤ a ∧ a ≤ 1099511627776 ∧ R lo hi
/-- How far another one is ahead. -/
def atF (n i kp d : Int) (M : KM) (r t : Int) : Int × Int × Int :=
  if mayF n i r t = true then
    match M r with
    | none => (0, 0, 6)
    | some (lo, hi, a) => if t - a < 0 then (0, 0, 6) else if kp < t - a then (0, 0, 6) else
      match ival_Grow.f lo hi (t - a) d with
      | some (x, y, e) => if e = 0 then (x, y, 0) else (0, 0, 6)
      | none => (0, 0, 6)
  else (0, 0, 1)
theorem keep_in (n f s dl ks ee wd rh sl cp : Int) (h : Ok n f s dl ks ee wd rh sl cp) : sched_Keep.f 3 n f s dl ks ee wd rh sl cp = some (2 * (n * s)) := by
  unfold sched_Keep.f
  rw [planned_in 0 n f s dl ks ee wd rh sl cp h]; rfl
theorem grow_any (a b t d : Int) : ∃ x y e, ival_Grow.f a b t d = some (x, y, e) := by
  obtain ⟨x, y, z, h, _⟩ := grow_same a b t d
  exact ⟨x, y, z, h⟩
theorem grow_R {a b t d x y : Int} (h : ival_Grow.f a b t d = some (x, y, 0)) : R x y := by
  unfold ival_Grow.f at h
  obtain ⟨p, q, hs, _⟩ := spread_same t d
  rw [hs, right_eq] at h
  simp only [Option.bind_some, make_eq] at h
  split at h
  · split at h
    · split at h
      · rename_i hR
        simp only [Option.bind_some, Option.some.injEq, Prod.mk.injEq] at h
        obtain ⟨rfl, rfl, _⟩ := h
        exact hR
      · simp at h
    · simp at h
  · simp at h
theorem at_any (g bm : Nat) (n f s dl ks ee wd rh sl cp i : Int) (r t x y e : Int) (z w : World) (hI : IsT z w g bm n f s dl ks ee wd rh sl cp i) (k : Nat) (M : KM) (hM : KMap w bm k M) (hMo : KOk M) (hk : Ok n f s dl ks ee wd rh sl cp) (h : atF n i (2 * (n * s)) (rh + sl) M r t = (x, y, e)) : Calls Try.prog 26 #[.pointer (some ⟨g, 0, none⟩), .int .i64 r, .int .i64 t] w fun en w' => en = .returned (.tuple #[.agg #[.int .i64 x, .int .i64 y], .int .i64 e]) ∧ Below w.heap.size w w' := by
  have hkp := keep_in n f s dl ks ee wd rh sl cp hk
  unfold Ok at hk
  unfold atF at h
  by_cases hmay : mayF n i r t = true
  · rw [if_pos hmay] at h
    cases hm : M r with
    | none =>
      rw [hm] at h
      cases h
      exact at_gone g bm n f s dl ks ee wd rh sl cp i r t z w hI k M hM (by omega) hmay hm
    | some q =>
      obtain ⟨lo, hi, a⟩ := q
      rw [hm] at h
      obtain ⟨a0, a1, _⟩ := hMo r lo hi a hm
      dsimp only at h
      by_cases h2 : t - a < 0
      · rw [if_pos h2] at h
        cases h
        exact at_early g bm n f s dl ks ee wd rh sl cp i r t lo hi a z w hI k M hM (by omega) hmay hm a0 a1 h2
      · rw [if_neg h2] at h
        by_cases h3 : 2 * (n * s) < t - a
        · rw [if_pos h3] at h
          cases h
          exact at_late g bm n f s dl ks ee wd rh sl cp i r t lo hi a _ z w hI k M hM (by omega) hkp hmay hm a0 a1 (by omega) h3
        · rw [if_neg h3] at h
          obtain ⟨x', y', e', hg⟩ := grow_any lo hi (t - a) (rh + sl)
          rw [hg] at h
          dsimp only at h
          by_cases he : e' = 0
          · rw [if_pos he] at h
            cases h
            subst he
            exact at_ok g bm n f s dl ks ee wd rh sl cp i r t lo hi a _ _ _ 0 z w hI k M hM (by omega) hkp hmay hm a0 a1 (by omega) (by omega) (by omega) (by omega) (by omega) (by omega) hg
          · rw [if_neg he] at h
            cases h
            exact at_grow g bm n f s dl ks ee wd rh sl cp i r t lo hi a _ x' y' e' z w hI k M hM (by omega) hkp hmay hm a0 a1 (by omega) (by omega) (by omega) (by omega) (by omega) (by omega) hg he
  · rw [if_neg hmay] at h
    cases h
    exact at_bad g bm n f s dl ks ee wd rh sl cp i r t z w hI (Bool.eq_false_iff.2 hmay)
theorem atF_R {n i kp d : Int} {M : KM} {r t x y : Int} (h : atF n i kp d M r t = (x, y, 0)) : R x y ∧ 0 ≤ t ∧ t ≤ 1099511627776 := by
  unfold atF at h
  split at h
  · rename_i hmay
    have hmy := of_decide_eq_true hmay
    refine ⟨?_, hmy.2.2.2.1, hmy.2.2.2.2⟩
    split at h
    · simp at h
    · split at h
      · simp at h
      · split at h
        · simp at h
        · split at h
          · rename_i hg
            split at h
            · rename_i he
              cases h
              subst he
              exact grow_R hg
            · simp at h
          · simp at h
  · simp at h
theorem ret2 {a b : Int} {c : Value} (h : a = b) : Ending.returned (.tuple #[.int .i64 a, c]) = .returned (.tuple #[.int .i64 b, c]) := by rw [h]
def mostF (q : Int × Int × Int) (t : Int) : Int × Int := if q.2.2 = 0 then (mx (t + q.2.1) 0, 0) else (0, q.2.2)
set_option maxRecDepth 100000 in
set_option maxHeartbeats 4000000 in
theorem most_no (g bm : Nat) (n f s dl ks ee wd rh sl cp i : Int) (r t x y e : Int) (z w : World) (hI : IsT z w g bm n f s dl ks ee wd rh sl cp i) (k : Nat) (M : KM) (hM : KMap w bm k M) (hMo : KOk M) (hk : Ok n f s dl ks ee wd rh sl cp) (h : atF n i (2 * (n * s)) (rh + sl) M r t = (x, y, e)) (he : e ≠ 0) : Calls Try.prog 27 #[.pointer (some ⟨g, 0, none⟩), .int .i64 r, .int .i64 t] w fun en w' => en = .returned (.tuple #[.int .i64 0, .int .i64 e]) ∧ Below w.heap.size w w' := by
  have heb : (e != 0) = true := bne_iff_ne.2 he
  have H := Aside0.mk (at_any g bm n f s dl ks ee wd rh sl cp i r t x y e z w hI k M hM hMo hk h)
  clear hI hM hMo hk h he
  go_enter Try.func27, Try.ntmps27
  go_wp2_with (first | (go_at_call 26; go_loud (refine H.out.mono ?_; rintro en w1 ⟨rfl, hb⟩; have HB := Aside0.mk hb; clear hb)))
  go_ret2
  exact ⟨rfl, below_alloc HB.out _⟩
set_option maxRecDepth 100000 in
set_option maxHeartbeats 4000000 in
theorem most_ok (g bm : Nat) (n f s dl ks ee wd rh sl cp i : Int) (r t x y : Int) (z w : World) (hI : IsT z w g bm n f s dl ks ee wd rh sl cp i) (k : Nat) (M : KM) (hM : KMap w bm k M) (hMo : KOk M) (hk : Ok n f s dl ks ee wd rh sl cp) (h : atF n i (2 * (n * s)) (rh + sl) M r t = (x, y, 0)) : Calls Try.prog 27 #[.pointer (some ⟨g, 0, none⟩), .int .i64 r, .int .i64 t] w fun en w' => en = .returned (.tuple #[.int .i64 (mx (t + y) 0), .int .i64 0]) ∧ Below w.heap.size w w' := by
  obtain ⟨hR, t0, t1⟩ := atF_R h
  unfold R at hR
  obtain ⟨h0, h1, h2⟩ := hR
  have H := Aside0.mk (at_any g bm n f s dl ks ee wd rh sl cp i r t x y 0 z w hI k M hM hMo hk h)
  clear hI hM hMo hk h
  go_enter Try.func27, Try.ntmps27
  go_wp2_with (first | (go_at_call 26; go_loud (refine H.out.mono ?_; rintro en w1 ⟨rfl, hb⟩; have HB := Aside0.mk hb; clear hb)))
  all_goals
    go_ret2
    exact ⟨ret2 (by unfold mx; (try split) <;> omega), below_alloc HB.out _⟩
theorem most_any (g bm : Nat) (n f s dl ks ee wd rh sl cp i : Int) (r t x y e p q : Int) (z w : World) (hI : IsT z w g bm n f s dl ks ee wd rh sl cp i) (k : Nat) (M : KM) (hM : KMap w bm k M) (hMo : KOk M) (hk : Ok n f s dl ks ee wd rh sl cp) (h : atF n i (2 * (n * s)) (rh + sl) M r t = (x, y, e)) (hq : mostF (x, y, e) t = (p, q)) : Calls Try.prog 27 #[.pointer (some ⟨g, 0, none⟩), .int .i64 r, .int .i64 t] w fun en w' => en = .returned (.tuple #[.int .i64 p, .int .i64 q]) ∧ Below w.heap.size w w' := by
  unfold mostF at hq
  by_cases he : e = 0
  · rw [if_pos he] at hq
    cases hq
    subst he
    exact most_ok g bm n f s dl ks ee wd rh sl cp i r t x y z w hI k M hM hMo hk h
  · rw [if_neg he] at hq
    cases hq
    exact most_no g bm n f s dl ks ee wd rh sl cp i r t x y e z w hI k M hM hMo hk h he
set_option maxRecDepth 100000 in
set_option maxHeartbeats 4000000 in
theorem clear_ok (g bm : Nat) (n f s dl ks ee wd rh sl cp i : Int) (z w : World) (hI : IsT z w g bm n f s dl ks ee wd rh sl cp i) (hB : Below z.heap.size z w) : Calls Try.prog 33 #[.pointer (some ⟨g, 0, none⟩)] w fun en w' => ∃ b', en = .returned (.tuple #[]) ∧ IsT z w' g b' n f s dl ks ee wd rh sl cp i ∧ KMap w' b' 0 (fun _ => none) ∧ z.heap.size ≤ b' ∧ Below z.heap.size z w' ∧ w.grownBy w' (some g) := by
  have c11 : w.cell? ⟨g, 11, none⟩ = some (.map (some bm)) := (blk_cell hI.1 11).trans rfl
  have f11 : w.frozen? ⟨g, 11, none⟩ = false := blk_frozen hI.1 11
  have hmm := @run_makeMap Try.prog
  have HI := Aside0.mk hI
  have HB := Aside0.mk hB
  clear hI hB
  go_enter Try.func33, Try.ntmps33
  go_wp2_with (first | (go_at_call 53; go_loud (refine (none_ok g bm n f s dl ks ee wd rh sl cp i z _ HI.out).mono ?_; rintro en w1 ⟨rfl, e1⟩; rw [e1]; clear e1)))
  go_end0
  have hg := blk_lt HI.out.1
  refine ⟨w.heap.size, rfl, ⟨blk_put (blk_alloc HI.out.1 _) 11 _ rfl, HI.out.2⟩, KMap.made ((Below.heap_setCell _ _ _ _ (by simp; omega)).trans (blk_new w (.map #[] 0))), HB.out.size, below_set (below_alloc HB.out _) HI.out.2, ?_⟩
  exact ⟨rfl, rfl, rfl, by simp, fun j hj hne => (Below.heap_setCell _ _ _ j (fun e => hne (by subst e; rfl))).trans (Below.heap_alloc w _ j hj)⟩
end Go.Proofs.Ytfaikkhnlioajaa.Br4
