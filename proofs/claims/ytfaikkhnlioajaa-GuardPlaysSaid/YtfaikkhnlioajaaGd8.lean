/- Any acts of a guard. -/
import Derived.Test.YtfaikkhnlioajaaProg
import Derived.Below
import Derived.Deep.Draws
import Derived.Deep.AppendLies
import Derived.Maps.AppendAt
import Derived.OwnWalk
import Derived.Laws.BytesArg
import Derived.Laws.MakeOwn
import Derived.Laws.OwnMore
import Derived.Deep.OwnRows
import Derived.Tactics
import Derived.Lib.ConvBytes
import Derived.Laws.Slices
import Derived.WalkKit
import Derived.KernelRfl
import Derived.RowKit3
import Derived.Deep.LoopGhost
import Derived.Deep.QuietTactic
import Derived.BigQuiet
import Derived.WideLaws
import Derived.Deep.DeepCutAuto
import Derived.Deep.CutBlock
import Derived.Deep.RegionHeld3
import Derived.Laws.Rows
import Derived.Lib.AppendStr
import Derived.ArgAppend
import Derived.Laws.IdiomCopy
import Derived.OrdersHeld
import Derived.Laws.BitsLemmas
import Derived.RowKit
import Derived.RegionTactic
import Derived.ChangeAlike
import Derived.Outline
import Derived.LoopTactic
import Derived.WalkSpells
import Derived.WalkLawsBesides
import Derived.Lib.Hide
import Derived.StillTailTactics
import Derived.Deep.RegionWith
import Derived.Deep.RegionLaw
import Derived.Deep.DeepFit
import Derived.Deep.DeepMust
import Derived.Test.YtfaikkhnlioajaaWWords
import Derived.Test.YtfaikkhnlioajaaWLast
import Derived.Test.YtfaikkhnlioajaaWTab
import Derived.Test.YtfaikkhnlioajaaWFour
import Derived.Test.YtfaikkhnlioajaaWQPut
import Derived.Test.YtfaikkhnlioajaaWApart
import Derived.Test.YtfaikkhnlioajaaWArr
import Derived.Test.YtfaikkhnlioajaaWZeros
import Derived.Test.YtfaikkhnlioajaaWFoot
import Derived.Test.YtfaikkhnlioajaaWKept
import Derived.Test.YtfaikkhnlioajaaWShare
import Derived.Test.YtfaikkhnlioajaaWN
import Derived.Test.YtfaikkhnlioajaaWFootNe
import Derived.Test.YtfaikkhnlioajaaWAt
import Derived.Test.YtfaikkhnlioajaaWEqStruct
import Derived.Test.YtfaikkhnlioajaaWRepsOne
import Derived.Test.YtfaikkhnlioajaaWInv
import Derived.Test.YtfaikkhnlioajaaWInvWords
import Derived.Test.YtfaikkhnlioajaaWGuard
import Derived.Test.YtfaikkhnlioajaaWNEv
import Derived.Test.YtfaikkhnlioajaaWMore
import Derived.Test.YtfaikkhnlioajaaGd7
import Derived.Deep.RegionHeld3
namespace Go.Proofs.Ytfaikkhnlioajaa.Gd8
open Go.RowKit Go.Proofs.YtfaikkhnlioajaaW.PrintWords Go.Proofs.YtfaikkhnlioajaaW.PrintLast Go.Proofs.YtfaikkhnlioajaaW.PrintMore 
attribute [local go_sem] max2_int min2_int max_two min_two max_three min_three max_four min_four
set_option linter.unusedVariables false
set_option linter.unusedSimpArgs false
open Go.Proofs.Ytfaikkhnlioajaa.QBase Go.Proofs.Ytfaikkhnlioajaa.Sch Go.Proofs.Ytfaikkhnlioajaa.Plc Go.Proofs.Ytfaikkhnlioajaa.Gd1 Go.Proofs.Ytfaikkhnlioajaa.Gd2 Go.Proofs.Ytfaikkhnlioajaa.Gd3 Go.Proofs.Ytfaikkhnlioajaa.Gd4 Go.Proofs.Ytfaikkhnlioajaa.Gd5 Go.Proofs.Ytfaikkhnlioajaa.Gd6 Go.Proofs.Ytfaikkhnlioajaa.Gd7 Go.Maps
attribute [local go_sem] cellS1 frozenS1 cellS2 frozenS2 cellS3 frozenS3 cellS4 frozenS4
theorem IsG.grown {z w w' : World} {g bm : Nat} {n f s dl ks ee wd rh sl cp i la le : Int} {row : Option Nat} (hh : IsG z w g bm n f s dl ks ee wd rh sl cp i la le) (hg : w.grownBy w' row) (hne : some g ≠ row) : IsG z w' g bm n f s dl ks ee wd rh sl cp i la le := ⟨blk_grown hh.1 hg hne, hh.2⟩
theorem own_off {w : World} {b g : Nat} {v : Value} {n : Nat} {xs : List Value} {cs : Array Value} {t : TypeId} {fr : Nat × Nat} (h : w.ownsRow b 3 1 v n xs) (hg : w.heap[g]? = some (.cells cs t fr)) (ht : t ≠ 3) : v.ownBlock ≠ some g := by
  intro e
  rcases h.2 with ⟨rfl, _⟩ | ⟨g', cap, cur, rfl, _, hgg, _⟩
  · simp [Value.ownBlock] at e
  · simp [Value.ownBlock] at e
    subst e
    rw [hgg] at hg
    cases hg
    exact ht rfl
theorem own_off_map {w : World} {b bm k : Nat} {M : Int → Int} {v : Value} {n : Nat} {xs : List Value} (h : w.ownsRow b 3 1 v n xs) (hm : MapIs w bm k M) : v.ownBlock ≠ some bm := by
  intro e
  obtain ⟨D, ⟨es, clock, hb, _⟩, _⟩ := hm
  rcases h.2 with ⟨rfl, _⟩ | ⟨g', cap, cur, rfl, _, hgg, _⟩
  · simp [Value.ownBlock] at e
  · simp [Value.ownBlock] at e
    subst e
    rw [hgg] at hb
    cases hb
theorem count_new (r : Int) (L : List Int) (x : Int) : ((flt r L ++ [r]).count x : Int) = (if r - 64 ≤ x then (if x = r then (L.count r : Int) + 1 else (L.count x : Int)) else 0) := by
  unfold flt
  rw [List.count_append, List.count_singleton]
  have h1 : (L.filter (fun y => decide (r - 64 ≤ y))).count x = if r - 64 ≤ x then L.count x else 0 := by
    by_cases hx : r - 64 ≤ x
    · rw [if_pos hx, List.count_filter (by simpa using hx)]
    · rw [if_neg hx, List.count_eq_zero]
      intro hm
      exact hx (by simpa using (List.mem_filter.1 hm).2)
  rw [h1]
  by_cases hx : r - 64 ≤ x
  · rw [if_pos hx, if_pos hx]
    by_cases hr : x = r
    · subst hr; simp
    · rw [if_neg hr]
      have : (r == x) = false := beq_eq_false_iff_ne.2 (fun e => hr e.symm)
      simp [this]
  · rw [if_neg hx, if_neg hx]
    have : (r == x) = false := beq_eq_false_iff_ne.2 (by omega)
    simp [this]
theorem new_in (r : Int) (L : List Int) (h : ∀ x ∈ L, 0 ≤ x ∧ x ≤ 1048575) (r0 : 0 ≤ r) (r1 : r ≤ 1048575) : ∀ x ∈ flt r L ++ [r], 0 ≤ x ∧ x ≤ 1048575 := by
  intro x hx
  rcases List.mem_append.1 hx with h1 | h1
  · exact h x (List.mem_filter.1 h1).1
  · rw [List.mem_singleton] at h1; subst h1; exact ⟨r0, r1⟩
theorem new_len (r : Int) (L : List Int) : (flt r L ++ [r]).length ≤ L.length + 1 := by
  rw [List.length_append]; exact Nat.succ_le_succ (List.length_filter_le _ _)
theorem rd_bdu8 (l : List Int) (i : Int) (h : ∀ x ∈ l, (Lit.int .u8 x).wf = true) (h0 : 0 ≤ i) (h1 : i < l.length) : 0 ≤ rd l i ∧ rd l i ≤ 255 := by
  unfold rd
  have hi : i.toNat < l.length := by omega
  rw [List.getD_eq_getElem?_getD, List.getElem?_eq_getElem hi]
  exact bounds_u8 (h _ (List.getElem_mem hi))
set_option maxRecDepth 100000 in
set_option maxHeartbeats 4000000 in
theorem rother_e (h : Nat) (n f s dl ks ee wd rh sl cp i la le : Int) (A : Option Addr) (c : Nat) (L : List Int) (t r p o e : Int) (z w : World) (hI : IsR z w h n f s dl ks ee wd rh sl cp i la le A L.length c) (hB : Below z.heap.size z w) (hp : carillonref16_Place.f 1 n f s dl ks ee wd rh sl cp t = some (r, p, o, e)) (he : e ≠ 0) : Calls Try.prog 19 #[.pointer (some ⟨h, 0, none⟩), .int .i64 t] w fun en w' => en = .returned (.int .i64 1) ∧ IsR z w' h n f s dl ks ee wd rh sl cp i la le A L.length c ∧ Below z.heap.size z w' ∧ KeepBut w w' h none := by
  have c0 : w.cell? ⟨h, 0, none⟩ = some (.int .i64 n) := (blk_cell hI.1 0).trans rfl
  have c1 : w.cell? ⟨h, 1, none⟩ = some (.int .i64 f) := (blk_cell hI.1 1).trans rfl
  have c2 : w.cell? ⟨h, 2, none⟩ = some (.int .i64 s) := (blk_cell hI.1 2).trans rfl
  have c3 : w.cell? ⟨h, 3, none⟩ = some (.int .i64 dl) := (blk_cell hI.1 3).trans rfl
  have c4 : w.cell? ⟨h, 4, none⟩ = some (.int .i64 ks) := (blk_cell hI.1 4).trans rfl
  have c5 : w.cell? ⟨h, 5, none⟩ = some (.int .i64 ee) := (blk_cell hI.1 5).trans rfl
  have c6 : w.cell? ⟨h, 6, none⟩ = some (.int .i64 wd) := (blk_cell hI.1 6).trans rfl
  have c7 : w.cell? ⟨h, 7, none⟩ = some (.int .i64 rh) := (blk_cell hI.1 7).trans rfl
  have c8 : w.cell? ⟨h, 8, none⟩ = some (.int .i64 sl) := (blk_cell hI.1 8).trans rfl
  have c9 : w.cell? ⟨h, 9, none⟩ = some (.int .i64 cp) := (blk_cell hI.1 9).trans rfl
  have hgs : h < w.heap.size := blk_lt hI.1
  have HI := Aside0.mk hI
  have HB := Aside0.mk hB
  have HP := Aside0.mk hp
  have heb : (e != 0) = true := by simp [he]
  clear hI hB hp
  go_enter Try.func19, Try.ntmps19
  go_wp2_with (first | (go_at_call 52; go_loud (refine (carillonref16_Place.calls 1 n f s dl ks ee wd rh sl cp t r p o e _ HP.out).mono ?_; rintro en w2 ⟨rfl, hb⟩; have I2 : Aside0 (IsR z w2 h n f s dl ks ee wd rh sl cp i la le A L.length c) := ⟨blk_below HI.out.1 hb, HI.out.2⟩; have B2 := Aside0.mk (below_step HB.out hb); have K2 := Aside0.mk (KeepBut.of_below hb h none); have hs2 : h < w2.heap.size := Nat.lt_of_lt_of_le hgs hb.size; have k0 : w2.cell? ⟨h, 0, none⟩ = some (.int .i64 n) := (blk_cell I2.out.1 0).trans rfl; have k10 : w2.cell? ⟨h, 10, none⟩ = some (.int .i64 i) := (blk_cell I2.out.1 10).trans rfl; have k11 : w2.cell? ⟨h, 11, none⟩ = some (.int .i64 la) := (blk_cell I2.out.1 11).trans rfl; have k12 : w2.cell? ⟨h, 12, none⟩ = some (.int .i64 le) := (blk_cell I2.out.1 12).trans rfl; have k13 : w2.cell? ⟨h, 13, none⟩ = some (.slice A L.length c) := (blk_cell I2.out.1 13).trans rfl; have fz11 : w2.frozen? ⟨h, 11, none⟩ = false := blk_frozen I2.out.1 11; have fz13 : w2.frozen? ⟨h, 13, none⟩ = false := blk_frozen I2.out.1 13; clear hb)))
  go_ret
  exact ⟨rfl, by repeat (first | exact I2.out | (with_reducible apply IsR.drewN) | (with_reducible apply IsR.drew) | (with_reducible apply IsR.alloc) | (with_reducible apply IsR.set_11)), by repeat (first | exact B2.out | (with_reducible apply pw_below_drewN) | (with_reducible apply below_drew1) | (with_reducible refine below_alloc ?_ _) | (refine Below.setCell (p := ⟨h, 11, none⟩) ?_ I2.out.2 _)), by repeat (first | exact K2.out | (with_reducible refine keep_drewN ?_ _) | (with_reducible refine keep_drew ?_) | (with_reducible refine keep_alloc ?_ _) | (with_reducible refine KeepBut.set_ ?_ _ _))⟩
set_option maxRecDepth 100000 in
set_option maxHeartbeats 4000000 in
theorem plays_bad (A2 A3 : Option Addr) (c2 c3 : Nat) (l2 l3 : List Int) (n f s dl ks ee wd rh sl cp i : Int) (w : World) (h : ¬ (Ok n f s dl ks ee wd rh sl cp ∧ 0 ≤ i ∧ i < n)) : Calls Try.prog 5 #[.agg #[.int .i64 n, .int .i64 f, .int .i64 s, .int .i64 dl, .int .i64 ks, .int .i64 ee, .int .i64 wd, .int .i64 rh, .int .i64 sl, .int .i64 cp], .int .i64 i, .slice A2 l2.length c2, .slice A3 l3.length c3] w fun en w' => en = .returned (.bool true) ∧ Below w.heap.size w w' := by
  have HN := Aside0.mk h
  clear h
  go_enter Try.func5, Try.ntmps5
  go_wp2_with (first | (go_at_call 11; go_loud (refine (new_not n f s dl ks ee wd rh sl cp i _ HN.out).mono ?_; rintro en w1 ⟨rfl, a2⟩; have cc := blk_below (blk_new w (.cells #[.int .i64 n, .int .i64 f, .int .i64 s, .int .i64 dl, .int .i64 ks, .int .i64 ee, .int .i64 wd, .int .i64 rh, .int .i64 sl, .int .i64 cp] 23 (0, 0))) a2; have c0 : w1.cell? ⟨w.heap.size, 0, none⟩ = some (.int .i64 n) := (blk_cell cc 0).trans rfl; have c1 : w1.cell? ⟨w.heap.size, 1, none⟩ = some (.int .i64 f) := (blk_cell cc 1).trans rfl; have c2 : w1.cell? ⟨w.heap.size, 2, none⟩ = some (.int .i64 s) := (blk_cell cc 2).trans rfl; have c3 : w1.cell? ⟨w.heap.size, 3, none⟩ = some (.int .i64 dl) := (blk_cell cc 3).trans rfl; have c4 : w1.cell? ⟨w.heap.size, 4, none⟩ = some (.int .i64 ks) := (blk_cell cc 4).trans rfl; have c5 : w1.cell? ⟨w.heap.size, 5, none⟩ = some (.int .i64 ee) := (blk_cell cc 5).trans rfl; have c6 : w1.cell? ⟨w.heap.size, 6, none⟩ = some (.int .i64 wd) := (blk_cell cc 6).trans rfl; have c7 : w1.cell? ⟨w.heap.size, 7, none⟩ = some (.int .i64 rh) := (blk_cell cc 7).trans rfl; have c8 : w1.cell? ⟨w.heap.size, 8, none⟩ = some (.int .i64 sl) := (blk_cell cc 8).trans rfl; have c9 : w1.cell? ⟨w.heap.size, 9, none⟩ = some (.int .i64 cp) := (blk_cell cc 9).trans rfl; clear cc; have HB1 := Aside0.mk (below_step (below_alloc (Below.refl _ _) (.cells #[.int .i64 n, .int .i64 f, .int .i64 s, .int .i64 dl, .int .i64 ks, .int .i64 ee, .int .i64 wd, .int .i64 rh, .int .i64 sl, .int .i64 cp] 23 (0, 0))) a2); clear a2)) | (go_at_call 17; go_loud (refine (rnew_not n f s dl ks ee wd rh sl cp i _ HN.out).mono ?_; rintro en w2 ⟨rfl, a2⟩; have HB2 := Aside0.mk (below_step HB1.out a2); clear a2)) | (go_at_call 12; go_loud (refine (awake_ok _).mono ?_; rintro en w3 ⟨rfl, hb2⟩; have HB3 := Aside0.mk (below_step HB2.out hb2); clear hb2)))
  go_ret
  exact ⟨rfl, HB3.out⟩
set_option maxRecDepth 100000 in
set_option maxHeartbeats 32000000 in
theorem plays_good (A2 A3 : Option Addr) (c2 c3 : Nat) (l2 l3 : List Int) (n f s dl ks ee wd rh sl cp i : Int) (w : World) (hr2 : Kd.C (Kd.int .u8) w A2 l2.length l2) (hr3 : Kd.C (Kd.int .i64) w A3 l3.length l3)
    (hw2 : ∀ x ∈ l2, (Lit.int .u8 x).wf = true) (hw3 : ∀ x ∈ l3, (Lit.int .i64 x).wf = true) (hl2 : l2.length ≤ maxLen) (hl3 : l3.length ≤ maxLen)
    (hk : Ok n f s dl ks ee wd rh sl cp) (i0 : 0 ≤ i) (i1 : i < n) : Calls Try.prog 5 #[.agg #[.int .i64 n, .int .i64 f, .int .i64 s, .int .i64 dl, .int .i64 ks, .int .i64 ee, .int .i64 wd, .int .i64 rh, .int .i64 sl, .int .i64 cp], .int .i64 i, .slice A2 l2.length c2, .slice A3 l3.length c3] w fun en w' => en = .returned (.bool true) ∧ Below w.heap.size w w' := by
  have hrr := ok_r hk
  have HRR := Aside0.mk hrr
  have HR2 := Aside0.mk hr2
  have HR3 := Aside0.mk hr3
  have HW2 := Aside0.mk hw2
  have HW3 := Aside0.mk hw3
  have HK := Aside0.mk hk
  unfold maxLen at hl2 hl3
  clear hr2 hr3 hw2 hw3 hk hrr
  have HOLD : Aside0 (∀ W, Below (w.alloc (.cells #[.int .i64 n, .int .i64 f, .int .i64 s, .int .i64 dl, .int .i64 ks, .int .i64 ee, .int .i64 wd, .int .i64 rh, .int .i64 sl, .int .i64 cp] 23 (0, 0))).heap.size (w.alloc (.cells #[.int .i64 n, .int .i64 f, .int .i64 s, .int .i64 dl, .int .i64 ks, .int .i64 ee, .int .i64 wd, .int .i64 rh, .int .i64 sl, .int .i64 cp] 23 (0, 0))) W → ∀ (a : Addr) (v : Value), w.cell? a = some v → W.cell? a = some v) := ⟨fun W hB a v h => ((below_weaken (below_alloc (Below.refl w.heap.size w) (.cells #[.int .i64 n, .int .i64 f, .int .i64 s, .int .i64 dl, .int .i64 ks, .int .i64 ee, .int .i64 wd, .int .i64 rh, .int .i64 sl, .int .i64 cp] 23 (0, 0))) (by simp) hB).cell (World.block_lt_of_cell? w _ h)).trans h⟩
  go_enter Try.func5, Try.ntmps5
  go_wp2_with (first | (go_at_call 11; go_loud (refine (new_yes n f s dl ks ee wd rh sl cp i _ HK.out i0 i1).mono ?_; rintro en w1 ⟨g, bm, rfl, a1, a2, a3, a4⟩; have I1 := Aside0.mk a1; have M1 := Aside0.mk a2; have M2 := Aside0.mk a3; have B1 := Aside0.mk a4; have cc := blk_below (blk_new w (.cells #[.int .i64 n, .int .i64 f, .int .i64 s, .int .i64 dl, .int .i64 ks, .int .i64 ee, .int .i64 wd, .int .i64 rh, .int .i64 sl, .int .i64 cp] 23 (0, 0))) B1.out; have c0 : w1.cell? ⟨w.heap.size, 0, none⟩ = some (.int .i64 n) := (blk_cell cc 0).trans rfl; have c1 : w1.cell? ⟨w.heap.size, 1, none⟩ = some (.int .i64 f) := (blk_cell cc 1).trans rfl; have c2 : w1.cell? ⟨w.heap.size, 2, none⟩ = some (.int .i64 s) := (blk_cell cc 2).trans rfl; have c3 : w1.cell? ⟨w.heap.size, 3, none⟩ = some (.int .i64 dl) := (blk_cell cc 3).trans rfl; have c4 : w1.cell? ⟨w.heap.size, 4, none⟩ = some (.int .i64 ks) := (blk_cell cc 4).trans rfl; have c5 : w1.cell? ⟨w.heap.size, 5, none⟩ = some (.int .i64 ee) := (blk_cell cc 5).trans rfl; have c6 : w1.cell? ⟨w.heap.size, 6, none⟩ = some (.int .i64 wd) := (blk_cell cc 6).trans rfl; have c7 : w1.cell? ⟨w.heap.size, 7, none⟩ = some (.int .i64 rh) := (blk_cell cc 7).trans rfl; have c8 : w1.cell? ⟨w.heap.size, 8, none⟩ = some (.int .i64 sl) := (blk_cell cc 8).trans rfl; have c9 : w1.cell? ⟨w.heap.size, 9, none⟩ = some (.int .i64 cp) := (blk_cell cc 9).trans rfl; clear cc a1 a2 a3 a4)) | (go_at_call 17; go_loud (refine (rnew_yes n f s dl ks ee wd rh sl cp i _ HK.out i0 i1).mono ?_; rintro en w2 ⟨h, rfl, a1, a2⟩; have gg := grown_below a2; have hg2 : g < w1.heap.size := blk_lt I1.out.1; have hh2 : w1.heap.size ≤ h := a1.2; have hgh : g ≠ h := (by omega); have hb2 : bm < w1.heap.size := blk_lt M1.out; have hbh : bm ≠ h := (by omega); have hbg : bm ≠ g := (fun e => by have q1 := M1.out; have q2 := I1.out.1; rw [e, q2] at q1; cases q1); clear hg2 hh2 hb2; have I2 : Aside0 (IsG (w.alloc (.cells #[.int .i64 n, .int .i64 f, .int .i64 s, .int .i64 dl, .int .i64 ks, .int .i64 ee, .int .i64 wd, .int .i64 rh, .int .i64 sl, .int .i64 cp] 23 (0, 0))) w2 g bm n f s dl ks ee wd rh sl cp i (-1) 0) := ⟨IsG.grown I1.out gg (by simp)⟩; have J2 : Aside0 (IsR (w.alloc (.cells #[.int .i64 n, .int .i64 f, .int .i64 s, .int .i64 dl, .int .i64 ks, .int .i64 ee, .int .i64 wd, .int .i64 rh, .int .i64 sl, .int .i64 cp] 23 (0, 0))) w2 h n f s dl ks ee wd rh sl cp i (-1) 0 none 0 0) := ⟨a1.1, Nat.le_trans B1.out.size a1.2⟩; have M2' : Aside0 (MapIs w2 bm 0 (fun _ => 0)) := ⟨(MapIs.made M1.out).kept gg (by simp)⟩; have B2 := Aside0.mk (below_step B1.out a2); clear a1 a2 gg)))
  have hbm : (w.alloc (.cells #[.int .i64 n, .int .i64 f, .int .i64 s, .int .i64 dl, .int .i64 ks, .int .i64 ee, .int .i64 wd, .int .i64 rh, .int .i64 sl, .int .i64 cp] 23 (0, 0))).heap.size ≤ bm := M2.out
  go_loopw [13] (fun v wr => ∃ (k la le : Int) (M : Int → Int) (L : List Int) (A : Option Addr) (c : Nat), v = .int .i64 k ∧ 0 ≤ k ∧ k ≤ 200 ∧ (-1 ≤ la ∧ la ≤ 1048576) ∧ (0 ≤ le ∧ le ≤ 100) ∧ Aside0 (∀ x, M x = (L.count x : Nat)) ∧ Aside0 (∀ x ∈ L, 0 ≤ x ∧ x ≤ 1048575) ∧ (L.length : Int) ≤ k ∧ Aside0 (IsG (w.alloc (.cells #[.int .i64 n, .int .i64 f, .int .i64 s, .int .i64 dl, .int .i64 ks, .int .i64 ee, .int .i64 wd, .int .i64 rh, .int .i64 sl, .int .i64 cp] 23 (0, 0))) wr g bm n f s dl ks ee wd rh sl cp i la le) ∧ Aside0 (MapIs wr bm k.toNat M) ∧ Aside0 (IsR (w.alloc (.cells #[.int .i64 n, .int .i64 f, .int .i64 s, .int .i64 dl, .int .i64 ks, .int .i64 ee, .int .i64 wd, .int .i64 rh, .int .i64 sl, .int .i64 cp] 23 (0, 0))) wr h n f s dl ks ee wd rh sl cp i la le A L.length c) ∧ Aside0 (wr.ownsRow (w.alloc (.cells #[.int .i64 n, .int .i64 f, .int .i64 s, .int .i64 dl, .int .i64 ks, .int .i64 ee, .int .i64 wd, .int .i64 rh, .int .i64 sl, .int .i64 cp] 23 (0, 0))).heap.size 3 1 (.slice A L.length c) L.length (L.map (Value.int .i64))) ∧ Aside0 (Below (w.alloc (.cells #[.int .i64 n, .int .i64 f, .int .i64 s, .int .i64 dl, .int .i64 ks, .int .i64 ee, .int .i64 wd, .int .i64 rh, .int .i64 sl, .int .i64 cp] 23 (0, 0))).heap.size (w.alloc (.cells #[.int .i64 n, .int .i64 f, .int .i64 s, .int .i64 dl, .int .i64 ks, .int .i64 ee, .int .i64 wd, .int .i64 rh, .int .i64 sl, .int .i64 cp] 23 (0, 0))) wr)) (fun v _ => (200 - intOf v).toNat)
  case atStart => exact ⟨0, -1, 0, fun _ => 0, [], none, 0, rfl, by omega, by omega, by omega, by omega, ⟨fun _ => rfl⟩, ⟨fun x hx => by cases hx⟩, by simp, I2, M2', J2, ⟨World.ownsRow_nil _ _ _ _⟩, B2⟩
  case round =>
    obtain ⟨k, la, le, M, L, A, c, rfl, k0, k1, ⟨u0, u1⟩, ⟨e0, e1⟩, HREL, HL2, hLk, I5, M5, J5, O5, B5⟩ := hrel
    clear I1 B1 M1 I2 J2 M2' B2 c0 c1 c4 c5 c6 c7 c8 c9
    have hLn : L.length ≤ 1000 := by omega
    have HM0 : Aside0 (∀ x, 0 ≤ M x) := ⟨fun x => by rw [HREL.out]; omega⟩
    by_cases c5 : k < (l2.length : Int)
    · have c5b : decide (k < (l2.length : Int)) = true := decide_eq_true c5
      by_cases c6 : k < (l3.length : Int)
      · have c6b : decide (k < (l3.length : Int)) = true := decide_eq_true c6
        by_cases c8 : k < 200
        · have c8b : decide (k < 200) = true := decide_eq_true c8
          obtain ⟨ad2, e2, hx2⟩ := Kd.at_int HR2.out k k0 c5
          cases e2
          obtain ⟨ad3, e3, hx3⟩ := Kd.at_int HR3.out k k0 c6
          cases e3
          have hq := rd_bdu8 l2 k HW2.out k0 c5
          have hy := rd_bd64 l3 k HW3.out k0 c6
          obtain ⟨t, hx⟩ : ∃ x, rd l3 k = x := ⟨_, rfl⟩
          rw [hx] at hx3 hy
          clear hx
          obtain ⟨y0, y1⟩ := hy
          obtain ⟨q, hqq⟩ : ∃ q, rd l2 k = q := ⟨_, rfl⟩
          rw [hqq] at hx2 hq
          clear hqq
          obtain ⟨q0, q1⟩ := hq
          have X3 := Aside0.mk hx3
          replace hx2 := HOLD.out _ B5.out _ _ hx2
          replace hx3 := HOLD.out _ B5.out _ _ hx3
          obtain ⟨r, p, o, e, hpl⟩ : ∃ r p o e, plc n s t = (r, p, o, e) := ⟨_, _, _, _, rfl⟩
          have hbd := plc_bd n s t r p o e hpl HRR.out.1 HRR.out.2.2.1 HRR.out.2.2.2 HRR.out.2.1
          have HP := Aside0.mk (show sched_Place.f 3 n f s dl ks ee wd rh sl cp t = some (r, p, o, e) by rw [place_in 0 n f s dl ks ee wd rh sl cp t HK.out, hpl])
          have HRP := Aside0.mk (show carillonref16_Place.f 1 n f s dl ks ee wd rh sl cp t = some (r, p, o, e) by rw [rplace_in 0 n f s dl ks ee wd rh sl cp t HK.out, hpl])
          obtain ⟨r0, r1, p0, p1, o0, o1, he01⟩ := hbd
          clear hpl
          have h4 : q % 5 = 0 ∨ q % 5 = 1 ∨ q % 5 = 2 ∨ q % 5 = 3 ∨ q % 5 = 4 := by omega
          rcases h4 with k4 | k4 | k4 | k4 | k4
          · as_aux_lemma =>
              obtain ⟨x, y, z1, hd⟩ : ∃ x y z1, dataF i la le r p e = (x, y, z1) := ⟨_, _, _, rfl⟩
              have hcs := dataF_cases i la le r p e x y z1 hd
              have hz1 : -1 ≤ z1 ∧ z1 ≤ 1048576 := by rcases hcs with ⟨_, h1⟩ | ⟨_, _, _, _, _, _, h1⟩ <;> omega
              have HD := Aside0.mk hd
              clear hd hcs
              go_upto_region 23 with (first | (go_at_call 13; go_loud (refine (data_any g bm n f s dl ks ee wd rh sl cp i la le t r p o e _ _ I5.out B5.out HP.out x y z1 HD.out).mono ?_; rintro en w6 ⟨rfl, a1, a2, a3⟩; have gg := grown_of_keep B5.out a2 a3; have I6 := Aside0.mk a1; have B6 := Aside0.mk a2; have M6 := Aside0.mk (M5.out.kept gg (fun e => hbg (Option.some.inj e))); have J6 := Aside0.mk (J5.out.grown gg (fun e => hgh (Option.some.inj e).symm)); have O6 := Aside0.mk (O5.out.kept gg (Or.inr (own_off O5.out I5.out.1 (by decide)))); have x3_w6 : w6.cell? (ad3.add k.toNat) = some (.int .i64 t) := HOLD.out _ a2 _ _ X3.out; clear a1 a2 a3 gg)) | (go_at_call 18; go_loud (refine (rdata_any h n f s dl ks ee wd rh sl cp i la le A c L t r p o e _ _ J6.out B6.out HRP.out he01 x y z1 HD.out).mono ?_; rintro en w7 ⟨rfl, a1, a2, a3⟩; have gg := grown_of_keep B6.out a2 a3; have J7 := Aside0.mk a1; have B7 := Aside0.mk a2; have M7 := Aside0.mk (M6.out.kept gg (fun e => hbh (Option.some.inj e))); have I7 := Aside0.mk (IsG.grown I6.out gg (fun e => hgh (Option.some.inj e))); have O7 := Aside0.mk (O6.out.kept gg (Or.inr (own_off O6.out J6.out.1 (by decide)))); have x3_w7 : w7.cell? (ad3.add k.toNat) = some (.int .i64 t) := HOLD.out _ a2 _ _ X3.out; clear a1 a2 a3 gg)))
              have y11 : w7.cell? ⟨h, 11, none⟩ = some (.int .i64 z1) := (blk_cell J7.out.1 11).trans rfl
              have QI := Aside0.mk (IsG.drew I7.out)
              go_region_held3 (fun W => W.cell? ⟨h, 11, none⟩ = some (.int .i64 z1)) (go_keep) (first | (go_at_call 15; go_loud (refine (last_ok g bm n f s dl ks ee wd rh sl cp i z1 le _ _ QI.out).mono ?_; rintro en wq ⟨rfl, rfl⟩)))
              go_wp2
              go_roundw
              case rel => exact by first | exact ⟨k + 1, z1, le, M, L, A, c, by go_num, by omega, by omega, by omega, by omega, HREL, HL2, by omega, ⟨IsG.drew I7.out⟩, ⟨MapIs.mono (show MapIs w7.drew _ _ _ from M7.out) (by omega)⟩, ⟨IsR.drew J7.out⟩, ⟨show w7.drew.ownsRow _ _ _ _ _ _ from O7.out⟩, ⟨below_drew1 B7.out⟩⟩ | exact ⟨k + 1, z1, le, M, L, A, c, by go_num, by omega, by omega, by omega, by omega, HREL, HL2, by omega, I7, ⟨MapIs.mono M7.out (by omega)⟩, J7, O7, B7⟩
              case measure => simp [intOf]; omega
          · as_aux_lemma =>
              obtain ⟨x, y, z1, hd⟩ : ∃ x y z1, dataF i la le r p e = (x, y, z1) := ⟨_, _, _, rfl⟩
              have hcs := dataF_cases i la le r p e x y z1 hd
              have hz1 : -1 ≤ z1 ∧ z1 ≤ 1048576 := by rcases hcs with ⟨_, h1⟩ | ⟨_, _, _, _, _, _, h1⟩ <;> omega
              have HD := Aside0.mk hd
              clear hd hcs
              go_upto_region 23 with (first | (go_at_call 13; go_loud (refine (data_any g bm n f s dl ks ee wd rh sl cp i la le t r p o e _ _ I5.out B5.out HP.out x y z1 HD.out).mono ?_; rintro en w6 ⟨rfl, a1, a2, a3⟩; have gg := grown_of_keep B5.out a2 a3; have I6 := Aside0.mk a1; have B6 := Aside0.mk a2; have M6 := Aside0.mk (M5.out.kept gg (fun e => hbg (Option.some.inj e))); have J6 := Aside0.mk (J5.out.grown gg (fun e => hgh (Option.some.inj e).symm)); have O6 := Aside0.mk (O5.out.kept gg (Or.inr (own_off O5.out I5.out.1 (by decide)))); have x3_w6 : w6.cell? (ad3.add k.toNat) = some (.int .i64 t) := HOLD.out _ a2 _ _ X3.out; clear a1 a2 a3 gg)) | (go_at_call 18; go_loud (refine (rdata_any h n f s dl ks ee wd rh sl cp i la le A c L t r p o e _ _ J6.out B6.out HRP.out he01 x y z1 HD.out).mono ?_; rintro en w7 ⟨rfl, a1, a2, a3⟩; have gg := grown_of_keep B6.out a2 a3; have J7 := Aside0.mk a1; have B7 := Aside0.mk a2; have M7 := Aside0.mk (M6.out.kept gg (fun e => hbh (Option.some.inj e))); have I7 := Aside0.mk (IsG.grown I6.out gg (fun e => hgh (Option.some.inj e))); have O7 := Aside0.mk (O6.out.kept gg (Or.inr (own_off O6.out J6.out.1 (by decide)))); have x3_w7 : w7.cell? (ad3.add k.toNat) = some (.int .i64 t) := HOLD.out _ a2 _ _ X3.out; clear a1 a2 a3 gg)))
              have y11 : w7.cell? ⟨h, 11, none⟩ = some (.int .i64 z1) := (blk_cell J7.out.1 11).trans rfl
              have QI := Aside0.mk (IsG.drew I7.out)
              go_region_held3 (fun W => W.cell? ⟨h, 11, none⟩ = some (.int .i64 z1)) (go_keep) (first | (go_at_call 15; go_loud (refine (last_ok g bm n f s dl ks ee wd rh sl cp i z1 le _ _ QI.out).mono ?_; rintro en wq ⟨rfl, rfl⟩)))
              go_wp2
              go_roundw
              case rel => exact by first | exact ⟨k + 1, z1, le, M, L, A, c, by go_num, by omega, by omega, by omega, by omega, HREL, HL2, by omega, ⟨IsG.drew I7.out⟩, ⟨MapIs.mono (show MapIs w7.drew _ _ _ from M7.out) (by omega)⟩, ⟨IsR.drew J7.out⟩, ⟨show w7.drew.ownsRow _ _ _ _ _ _ from O7.out⟩, ⟨below_drew1 B7.out⟩⟩ | exact ⟨k + 1, z1, le, M, L, A, c, by go_num, by omega, by omega, by omega, by omega, HREL, HL2, by omega, I7, ⟨MapIs.mono M7.out (by omega)⟩, J7, O7, B7⟩
              case measure => simp [intOf]; omega
          · as_aux_lemma =>
              rcases he01 with he0 | he0
              · subst he0
                by_cases hf : 4 * n ≤ (L.count r : Nat)
                · have HF := Aside0.mk hf
                  have HR := Aside0.mk (show otherR n r 0 M = 9 by unfold otherR; rw [if_neg (by omega), if_pos (by rw [HREL.out]; exact hf)])
                  have HM2 := Aside0.mk (show otherM n r 0 M = M by unfold otherM; rw [if_neg (by omega), if_pos (by rw [HREL.out]; exact hf)])
                  clear hf
                  have Q5I := Aside0.mk (IsG.drew I5.out)
                  have Q5B := Aside0.mk (below_drew1 B5.out)
                  have Q5M : Aside0 (MapIs wr.drew bm k.toNat M) := ⟨M5.out⟩
                  have JQ := Aside0.mk (IsR.drew J5.out)
                  have OQ : Aside0 (wr.drew.ownsRow (w.alloc (.cells #[.int .i64 n, .int .i64 f, .int .i64 s, .int .i64 dl, .int .i64 ks, .int .i64 ee, .int .i64 wd, .int .i64 rh, .int .i64 sl, .int .i64 cp] 23 (0, 0))).heap.size 3 1 (.slice A L.length c) L.length (L.map (Value.int .i64))) := ⟨O5.out⟩
                  have MQ := Q5M
                  go_upto_region 21 with (fail)
                  go_region_held3 (fun W => W.cell? (ad3.add k.toNat) = some (.int .i64 t)) (go_keep) (first | (go_at_call 16; go_loud (refine (other_any g bm k.toNat n f s dl ks ee wd rh sl cp i la le t r p o 0 M _ _ Q5I.out Q5B.out Q5M.out hbm HM0.out HK.out HP.out r0 r1 (by omega) 9 M HR.out HM2.out).mono ?_; rintro en w6 ⟨rfl, a1, a2, a3, a4⟩; have M6 := Aside0.mk a1; have I6 := Aside0.mk a2; have B6 := Aside0.mk a3; have J6 := Aside0.mk (JQ.out.grown a4 (fun e => hbh (Option.some.inj e).symm)); have O6 := Aside0.mk (OQ.out.kept a4 (Or.inr (own_off_map OQ.out MQ.out))); have x3_w6 : w6.cell? (ad3.add k.toNat) = some (.int .i64 t) := HOLD.out _ a3 _ _ X3.out; clear a1 a2 a3 a4)) | (go_at_call 19; go_loud (refine (rother_full h n f s dl ks ee wd rh sl cp i la le A c L t r p o _ _ J6.out B6.out O6.out hLn HL2.out HK.out HRP.out r0 r1 HF.out).mono ?_; rintro en w7 ⟨rfl, a1, a2, a3, a4⟩; have gg := grown_of_keep B6.out a3 a4; have J7 := Aside0.mk a1; have O7 := Aside0.mk a2; have B7 := Aside0.mk a3; have M7 := Aside0.mk (M6.out.kept gg (fun e => hbh (Option.some.inj e))); have I7 := Aside0.mk (IsG.grown I6.out gg (fun e => hgh (Option.some.inj e))); have x3_w7 : w7.cell? (ad3.add k.toNat) = some (.int .i64 t) := HOLD.out _ a3 _ _ X3.out; clear a1 a2 a3 a4 gg)))
                  go_upto_region 23 with (fail)
                  have y11 : w7.cell? ⟨h, 11, none⟩ = some (.int .i64 la) := (blk_cell J7.out.1 11).trans rfl
                  have QI := Aside0.mk (IsG.drew I7.out)
                  go_region_held3 (fun W => W.cell? ⟨h, 11, none⟩ = some (.int .i64 la)) (go_keep) (first | (go_at_call 15; go_loud (refine (last_ok g bm n f s dl ks ee wd rh sl cp i la le _ _ QI.out).mono ?_; rintro en wq ⟨rfl, rfl⟩)))
                  go_wp2
                  go_roundw
                  case rel => exact by first | exact ⟨k + 1, la, le, M, L, A, c, by go_num, by omega, by omega, by omega, by omega, HREL, HL2, by omega, ⟨IsG.drew I7.out⟩, ⟨by rw [show (k + 1).toNat = k.toNat + 1 by omega]; exact (show MapIs w7.drew _ _ _ from M7.out)⟩, ⟨IsR.drew J7.out⟩, ⟨show w7.drew.ownsRow _ _ _ _ _ _ from O7.out⟩, ⟨below_drew1 B7.out⟩⟩ | exact ⟨k + 1, la, le, M, L, A, c, by go_num, by omega, by omega, by omega, by omega, HREL, HL2, by omega, I7, ⟨by rw [show (k + 1).toNat = k.toNat + 1 by omega]; exact M7.out⟩, J7, O7, B7⟩
                  case measure => simp [intOf]; omega
                · have HF := Aside0.mk (show ((L.count r : Nat) : Int) < 4 * n by omega)
                  have HR := Aside0.mk (show otherR n r 0 M = 0 by unfold otherR; rw [if_neg (by omega), if_neg (by rw [HREL.out]; exact hf)])
                  obtain ⟨M2, hM2⟩ : ∃ M2, otherM n r 0 M = M2 := ⟨_, rfl⟩
                  have HM2 := Aside0.mk hM2
                  have HREL2 : Aside0 (∀ x, M2 x = ((flt r L ++ [r]).count x : Nat)) := ⟨fun x => by rw [← hM2, count_new, ← HREL.out, ← HREL.out]; unfold otherM; rw [if_neg (by omega), if_neg (by rw [HREL.out]; exact hf)]⟩
                  have HL3 := Aside0.mk (new_in r L HL2.out r0 r1)
                  have hln := new_len r L
                  obtain ⟨L2, hL2⟩ : ∃ L2, flt r L ++ [r] = L2 := ⟨_, rfl⟩
                  have RO : Aside0 (∀ (W : World), IsR (w.alloc (.cells #[.int .i64 n, .int .i64 f, .int .i64 s, .int .i64 dl, .int .i64 ks, .int .i64 ee, .int .i64 wd, .int .i64 rh, .int .i64 sl, .int .i64 cp] 23 (0, 0))) W h n f s dl ks ee wd rh sl cp i la le A L.length c → Below (w.alloc (.cells #[.int .i64 n, .int .i64 f, .int .i64 s, .int .i64 dl, .int .i64 ks, .int .i64 ee, .int .i64 wd, .int .i64 rh, .int .i64 sl, .int .i64 cp] 23 (0, 0))).heap.size (w.alloc (.cells #[.int .i64 n, .int .i64 f, .int .i64 s, .int .i64 dl, .int .i64 ks, .int .i64 ee, .int .i64 wd, .int .i64 rh, .int .i64 sl, .int .i64 cp] 23 (0, 0))) W → W.ownsRow (w.alloc (.cells #[.int .i64 n, .int .i64 f, .int .i64 s, .int .i64 dl, .int .i64 ks, .int .i64 ee, .int .i64 wd, .int .i64 rh, .int .i64 sl, .int .i64 cp] 23 (0, 0))).heap.size 3 1 (.slice A L.length c) L.length (L.map (Value.int .i64)) → Calls Try.prog 19 #[.pointer (some ⟨h, 0, none⟩), .int .i64 t] W fun en w' => ∃ A' c', en = .returned (.int .i64 0) ∧ IsR (w.alloc (.cells #[.int .i64 n, .int .i64 f, .int .i64 s, .int .i64 dl, .int .i64 ks, .int .i64 ee, .int .i64 wd, .int .i64 rh, .int .i64 sl, .int .i64 cp] 23 (0, 0))) w' h n f s dl ks ee wd rh sl cp i la le A' L2.length c' ∧ w'.ownsRow (w.alloc (.cells #[.int .i64 n, .int .i64 f, .int .i64 s, .int .i64 dl, .int .i64 ks, .int .i64 ee, .int .i64 wd, .int .i64 rh, .int .i64 sl, .int .i64 cp] 23 (0, 0))).heap.size 3 1 (.slice A' L2.length c') L2.length (L2.map (Value.int .i64)) ∧ Below (w.alloc (.cells #[.int .i64 n, .int .i64 f, .int .i64 s, .int .i64 dl, .int .i64 ks, .int .i64 ee, .int .i64 wd, .int .i64 rh, .int .i64 sl, .int .i64 cp] 23 (0, 0))).heap.size (w.alloc (.cells #[.int .i64 n, .int .i64 f, .int .i64 s, .int .i64 dl, .int .i64 ks, .int .i64 ee, .int .i64 wd, .int .i64 rh, .int .i64 sl, .int .i64 cp] 23 (0, 0))) w' ∧ KeepBut W w' h none) := ⟨fun W h1 h2 h3 => by have := rother_ok h n f s dl ks ee wd rh sl cp i la le A c L t r p o (w.alloc (.cells #[.int .i64 n, .int .i64 f, .int .i64 s, .int .i64 dl, .int .i64 ks, .int .i64 ee, .int .i64 wd, .int .i64 rh, .int .i64 sl, .int .i64 cp] 23 (0, 0))) W h1 h2 h3 hLn HL2.out HK.out HRP.out r0 r1 HF.out; rw [hL2] at this; exact this⟩
                  rw [hL2] at HREL2 HL3 hln
                  clear hf hM2 hL2
                  have Q5I := Aside0.mk (IsG.drew I5.out)
                  have Q5B := Aside0.mk (below_drew1 B5.out)
                  have Q5M : Aside0 (MapIs wr.drew bm k.toNat M) := ⟨M5.out⟩
                  have JQ := Aside0.mk (IsR.drew J5.out)
                  have OQ : Aside0 (wr.drew.ownsRow (w.alloc (.cells #[.int .i64 n, .int .i64 f, .int .i64 s, .int .i64 dl, .int .i64 ks, .int .i64 ee, .int .i64 wd, .int .i64 rh, .int .i64 sl, .int .i64 cp] 23 (0, 0))).heap.size 3 1 (.slice A L.length c) L.length (L.map (Value.int .i64))) := ⟨O5.out⟩
                  have MQ := Q5M
                  go_upto_region 21 with (fail)
                  go_region_held3 (fun W => W.cell? (ad3.add k.toNat) = some (.int .i64 t)) (go_keep) (first | (go_at_call 16; go_loud (refine (other_any g bm k.toNat n f s dl ks ee wd rh sl cp i la le t r p o 0 M _ _ Q5I.out Q5B.out Q5M.out hbm HM0.out HK.out HP.out r0 r1 (by omega) 0 M2 HR.out HM2.out).mono ?_; rintro en w6 ⟨rfl, a1, a2, a3, a4⟩; have M6 := Aside0.mk a1; have I6 := Aside0.mk a2; have B6 := Aside0.mk a3; have J6 := Aside0.mk (JQ.out.grown a4 (fun e => hbh (Option.some.inj e).symm)); have O6 := Aside0.mk (OQ.out.kept a4 (Or.inr (own_off_map OQ.out MQ.out))); have x3_w6 : w6.cell? (ad3.add k.toNat) = some (.int .i64 t) := HOLD.out _ a3 _ _ X3.out; clear a1 a2 a3 a4)) | (go_at_call 19; go_loud (refine (RO.out _ J6.out B6.out O6.out).mono ?_; rintro en w7 ⟨A', c', rfl, a1, a2, a3, a4⟩; have gg := grown_of_keep B6.out a3 a4; have J7 := Aside0.mk a1; have O7 := Aside0.mk a2; have B7 := Aside0.mk a3; have M7 := Aside0.mk (M6.out.kept gg (fun e => hbh (Option.some.inj e))); have I7 := Aside0.mk (IsG.grown I6.out gg (fun e => hgh (Option.some.inj e))); have x3_w7 : w7.cell? (ad3.add k.toNat) = some (.int .i64 t) := HOLD.out _ a3 _ _ X3.out; clear a1 a2 a3 a4 gg)))
                  go_upto_region 23 with (fail)
                  have y11 : w7.cell? ⟨h, 11, none⟩ = some (.int .i64 la) := (blk_cell J7.out.1 11).trans rfl
                  have QI := Aside0.mk (IsG.drew I7.out)
                  go_region_held3 (fun W => W.cell? ⟨h, 11, none⟩ = some (.int .i64 la)) (go_keep) (first | (go_at_call 15; go_loud (refine (last_ok g bm n f s dl ks ee wd rh sl cp i la le _ _ QI.out).mono ?_; rintro en wq ⟨rfl, rfl⟩)))
                  go_wp2
                  go_roundw
                  case rel => exact by first | exact ⟨k + 1, la, le, M2, L2, A', c', by go_num, by omega, by omega, by omega, by omega, HREL2, HL3, by omega, ⟨IsG.drew I7.out⟩, ⟨by rw [show (k + 1).toNat = k.toNat + 1 by omega]; exact (show MapIs w7.drew _ _ _ from M7.out)⟩, ⟨IsR.drew J7.out⟩, ⟨show w7.drew.ownsRow _ _ _ _ _ _ from O7.out⟩, ⟨below_drew1 B7.out⟩⟩ | exact ⟨k + 1, la, le, M2, L2, A', c', by go_num, by omega, by omega, by omega, by omega, HREL2, HL3, by omega, I7, ⟨by rw [show (k + 1).toNat = k.toNat + 1 by omega]; exact M7.out⟩, J7, O7, B7⟩
                  case measure => simp [intOf]; omega
              · have he1 : e ≠ 0 := by omega
                have HR := Aside0.mk (show otherR n r e M = 1 by unfold otherR; rw [if_pos he1]; exact he0)
                have HM2 := Aside0.mk (show otherM n r e M = M by unfold otherM; rw [if_pos he1])
                have Q5I := Aside0.mk (IsG.drew I5.out)
                have Q5B := Aside0.mk (below_drew1 B5.out)
                have Q5M : Aside0 (MapIs wr.drew bm k.toNat M) := ⟨M5.out⟩
                have JQ := Aside0.mk (IsR.drew J5.out)
                have OQ : Aside0 (wr.drew.ownsRow (w.alloc (.cells #[.int .i64 n, .int .i64 f, .int .i64 s, .int .i64 dl, .int .i64 ks, .int .i64 ee, .int .i64 wd, .int .i64 rh, .int .i64 sl, .int .i64 cp] 23 (0, 0))).heap.size 3 1 (.slice A L.length c) L.length (L.map (Value.int .i64))) := ⟨O5.out⟩
                have MQ := Q5M
                go_upto_region 21 with (fail)
                go_region_held3 (fun W => W.cell? (ad3.add k.toNat) = some (.int .i64 t)) (go_keep) (first | (go_at_call 16; go_loud (refine (other_any g bm k.toNat n f s dl ks ee wd rh sl cp i la le t r p o e M _ _ Q5I.out Q5B.out Q5M.out hbm HM0.out HK.out HP.out r0 r1 (by omega) 1 M HR.out HM2.out).mono ?_; rintro en w6 ⟨rfl, a1, a2, a3, a4⟩; have M6 := Aside0.mk a1; have I6 := Aside0.mk a2; have B6 := Aside0.mk a3; have J6 := Aside0.mk (JQ.out.grown a4 (fun e => hbh (Option.some.inj e).symm)); have O6 := Aside0.mk (OQ.out.kept a4 (Or.inr (own_off_map OQ.out MQ.out))); have x3_w6 : w6.cell? (ad3.add k.toNat) = some (.int .i64 t) := HOLD.out _ a3 _ _ X3.out; clear a1 a2 a3 a4)) | (go_at_call 19; go_loud (refine (rother_e h n f s dl ks ee wd rh sl cp i la le A c L t r p o e _ _ J6.out B6.out HRP.out he1).mono ?_; rintro en w7 ⟨rfl, a1, a2, a3⟩; have gg := grown_of_keep B6.out a2 a3; have J7 := Aside0.mk a1; have B7 := Aside0.mk a2; have M7 := Aside0.mk (M6.out.kept gg (fun e => hbh (Option.some.inj e))); have I7 := Aside0.mk (IsG.grown I6.out gg (fun e => hgh (Option.some.inj e))); have O7 := Aside0.mk (O6.out.kept gg (Or.inr (own_off O6.out J6.out.1 (by decide)))); have x3_w7 : w7.cell? (ad3.add k.toNat) = some (.int .i64 t) := HOLD.out _ a2 _ _ X3.out; clear a1 a2 a3 gg)))
                go_upto_region 23 with (fail)
                have y11 : w7.cell? ⟨h, 11, none⟩ = some (.int .i64 la) := (blk_cell J7.out.1 11).trans rfl
                have QI := Aside0.mk (IsG.drew I7.out)
                go_region_held3 (fun W => W.cell? ⟨h, 11, none⟩ = some (.int .i64 la)) (go_keep) (first | (go_at_call 15; go_loud (refine (last_ok g bm n f s dl ks ee wd rh sl cp i la le _ _ QI.out).mono ?_; rintro en wq ⟨rfl, rfl⟩)))
                go_wp2
                go_roundw
                case rel => exact by first | exact ⟨k + 1, la, le, M, L, A, c, by go_num, by omega, by omega, by omega, by omega, HREL, HL2, by omega, ⟨IsG.drew I7.out⟩, ⟨by rw [show (k + 1).toNat = k.toNat + 1 by omega]; exact (show MapIs w7.drew _ _ _ from M7.out)⟩, ⟨IsR.drew J7.out⟩, ⟨show w7.drew.ownsRow _ _ _ _ _ _ from O7.out⟩, ⟨below_drew1 B7.out⟩⟩ | exact ⟨k + 1, la, le, M, L, A, c, by go_num, by omega, by omega, by omega, by omega, HREL, HL2, by omega, I7, ⟨by rw [show (k + 1).toNat = k.toNat + 1 by omega]; exact M7.out⟩, J7, O7, B7⟩
                case measure => simp [intOf]; omega
          · as_aux_lemma =>
              rcases he01 with he0 | he0
              · subst he0
                by_cases hf : 4 * n ≤ (L.count r : Nat)
                · have HF := Aside0.mk hf
                  have HR := Aside0.mk (show otherR n r 0 M = 9 by unfold otherR; rw [if_neg (by omega), if_pos (by rw [HREL.out]; exact hf)])
                  have HM2 := Aside0.mk (show otherM n r 0 M = M by unfold otherM; rw [if_neg (by omega), if_pos (by rw [HREL.out]; exact hf)])
                  clear hf
                  have Q5I := Aside0.mk (IsG.drew I5.out)
                  have Q5B := Aside0.mk (below_drew1 B5.out)
                  have Q5M : Aside0 (MapIs wr.drew bm k.toNat M) := ⟨M5.out⟩
                  have JQ := Aside0.mk (IsR.drew J5.out)
                  have OQ : Aside0 (wr.drew.ownsRow (w.alloc (.cells #[.int .i64 n, .int .i64 f, .int .i64 s, .int .i64 dl, .int .i64 ks, .int .i64 ee, .int .i64 wd, .int .i64 rh, .int .i64 sl, .int .i64 cp] 23 (0, 0))).heap.size 3 1 (.slice A L.length c) L.length (L.map (Value.int .i64))) := ⟨O5.out⟩
                  have MQ := Q5M
                  go_upto_region 21 with (fail)
                  go_region_held3 (fun W => W.cell? (ad3.add k.toNat) = some (.int .i64 t)) (go_keep) (first | (go_at_call 16; go_loud (refine (other_any g bm k.toNat n f s dl ks ee wd rh sl cp i la le t r p o 0 M _ _ Q5I.out Q5B.out Q5M.out hbm HM0.out HK.out HP.out r0 r1 (by omega) 9 M HR.out HM2.out).mono ?_; rintro en w6 ⟨rfl, a1, a2, a3, a4⟩; have M6 := Aside0.mk a1; have I6 := Aside0.mk a2; have B6 := Aside0.mk a3; have J6 := Aside0.mk (JQ.out.grown a4 (fun e => hbh (Option.some.inj e).symm)); have O6 := Aside0.mk (OQ.out.kept a4 (Or.inr (own_off_map OQ.out MQ.out))); have x3_w6 : w6.cell? (ad3.add k.toNat) = some (.int .i64 t) := HOLD.out _ a3 _ _ X3.out; clear a1 a2 a3 a4)) | (go_at_call 19; go_loud (refine (rother_full h n f s dl ks ee wd rh sl cp i la le A c L t r p o _ _ J6.out B6.out O6.out hLn HL2.out HK.out HRP.out r0 r1 HF.out).mono ?_; rintro en w7 ⟨rfl, a1, a2, a3, a4⟩; have gg := grown_of_keep B6.out a3 a4; have J7 := Aside0.mk a1; have O7 := Aside0.mk a2; have B7 := Aside0.mk a3; have M7 := Aside0.mk (M6.out.kept gg (fun e => hbh (Option.some.inj e))); have I7 := Aside0.mk (IsG.grown I6.out gg (fun e => hgh (Option.some.inj e))); have x3_w7 : w7.cell? (ad3.add k.toNat) = some (.int .i64 t) := HOLD.out _ a3 _ _ X3.out; clear a1 a2 a3 a4 gg)))
                  go_upto_region 23 with (fail)
                  have y11 : w7.cell? ⟨h, 11, none⟩ = some (.int .i64 la) := (blk_cell J7.out.1 11).trans rfl
                  have QI := Aside0.mk (IsG.drew I7.out)
                  go_region_held3 (fun W => W.cell? ⟨h, 11, none⟩ = some (.int .i64 la)) (go_keep) (first | (go_at_call 15; go_loud (refine (last_ok g bm n f s dl ks ee wd rh sl cp i la le _ _ QI.out).mono ?_; rintro en wq ⟨rfl, rfl⟩)))
                  go_wp2
                  go_roundw
                  case rel => exact by first | exact ⟨k + 1, la, le, M, L, A, c, by go_num, by omega, by omega, by omega, by omega, HREL, HL2, by omega, ⟨IsG.drew I7.out⟩, ⟨by rw [show (k + 1).toNat = k.toNat + 1 by omega]; exact (show MapIs w7.drew _ _ _ from M7.out)⟩, ⟨IsR.drew J7.out⟩, ⟨show w7.drew.ownsRow _ _ _ _ _ _ from O7.out⟩, ⟨below_drew1 B7.out⟩⟩ | exact ⟨k + 1, la, le, M, L, A, c, by go_num, by omega, by omega, by omega, by omega, HREL, HL2, by omega, I7, ⟨by rw [show (k + 1).toNat = k.toNat + 1 by omega]; exact M7.out⟩, J7, O7, B7⟩
                  case measure => simp [intOf]; omega
                · have HF := Aside0.mk (show ((L.count r : Nat) : Int) < 4 * n by omega)
                  have HR := Aside0.mk (show otherR n r 0 M = 0 by unfold otherR; rw [if_neg (by omega), if_neg (by rw [HREL.out]; exact hf)])
                  obtain ⟨M2, hM2⟩ : ∃ M2, otherM n r 0 M = M2 := ⟨_, rfl⟩
                  have HM2 := Aside0.mk hM2
                  have HREL2 : Aside0 (∀ x, M2 x = ((flt r L ++ [r]).count x : Nat)) := ⟨fun x => by rw [← hM2, count_new, ← HREL.out, ← HREL.out]; unfold otherM; rw [if_neg (by omega), if_neg (by rw [HREL.out]; exact hf)]⟩
                  have HL3 := Aside0.mk (new_in r L HL2.out r0 r1)
                  have hln := new_len r L
                  obtain ⟨L2, hL2⟩ : ∃ L2, flt r L ++ [r] = L2 := ⟨_, rfl⟩
                  have RO : Aside0 (∀ (W : World), IsR (w.alloc (.cells #[.int .i64 n, .int .i64 f, .int .i64 s, .int .i64 dl, .int .i64 ks, .int .i64 ee, .int .i64 wd, .int .i64 rh, .int .i64 sl, .int .i64 cp] 23 (0, 0))) W h n f s dl ks ee wd rh sl cp i la le A L.length c → Below (w.alloc (.cells #[.int .i64 n, .int .i64 f, .int .i64 s, .int .i64 dl, .int .i64 ks, .int .i64 ee, .int .i64 wd, .int .i64 rh, .int .i64 sl, .int .i64 cp] 23 (0, 0))).heap.size (w.alloc (.cells #[.int .i64 n, .int .i64 f, .int .i64 s, .int .i64 dl, .int .i64 ks, .int .i64 ee, .int .i64 wd, .int .i64 rh, .int .i64 sl, .int .i64 cp] 23 (0, 0))) W → W.ownsRow (w.alloc (.cells #[.int .i64 n, .int .i64 f, .int .i64 s, .int .i64 dl, .int .i64 ks, .int .i64 ee, .int .i64 wd, .int .i64 rh, .int .i64 sl, .int .i64 cp] 23 (0, 0))).heap.size 3 1 (.slice A L.length c) L.length (L.map (Value.int .i64)) → Calls Try.prog 19 #[.pointer (some ⟨h, 0, none⟩), .int .i64 t] W fun en w' => ∃ A' c', en = .returned (.int .i64 0) ∧ IsR (w.alloc (.cells #[.int .i64 n, .int .i64 f, .int .i64 s, .int .i64 dl, .int .i64 ks, .int .i64 ee, .int .i64 wd, .int .i64 rh, .int .i64 sl, .int .i64 cp] 23 (0, 0))) w' h n f s dl ks ee wd rh sl cp i la le A' L2.length c' ∧ w'.ownsRow (w.alloc (.cells #[.int .i64 n, .int .i64 f, .int .i64 s, .int .i64 dl, .int .i64 ks, .int .i64 ee, .int .i64 wd, .int .i64 rh, .int .i64 sl, .int .i64 cp] 23 (0, 0))).heap.size 3 1 (.slice A' L2.length c') L2.length (L2.map (Value.int .i64)) ∧ Below (w.alloc (.cells #[.int .i64 n, .int .i64 f, .int .i64 s, .int .i64 dl, .int .i64 ks, .int .i64 ee, .int .i64 wd, .int .i64 rh, .int .i64 sl, .int .i64 cp] 23 (0, 0))).heap.size (w.alloc (.cells #[.int .i64 n, .int .i64 f, .int .i64 s, .int .i64 dl, .int .i64 ks, .int .i64 ee, .int .i64 wd, .int .i64 rh, .int .i64 sl, .int .i64 cp] 23 (0, 0))) w' ∧ KeepBut W w' h none) := ⟨fun W h1 h2 h3 => by have := rother_ok h n f s dl ks ee wd rh sl cp i la le A c L t r p o (w.alloc (.cells #[.int .i64 n, .int .i64 f, .int .i64 s, .int .i64 dl, .int .i64 ks, .int .i64 ee, .int .i64 wd, .int .i64 rh, .int .i64 sl, .int .i64 cp] 23 (0, 0))) W h1 h2 h3 hLn HL2.out HK.out HRP.out r0 r1 HF.out; rw [hL2] at this; exact this⟩
                  rw [hL2] at HREL2 HL3 hln
                  clear hf hM2 hL2
                  have Q5I := Aside0.mk (IsG.drew I5.out)
                  have Q5B := Aside0.mk (below_drew1 B5.out)
                  have Q5M : Aside0 (MapIs wr.drew bm k.toNat M) := ⟨M5.out⟩
                  have JQ := Aside0.mk (IsR.drew J5.out)
                  have OQ : Aside0 (wr.drew.ownsRow (w.alloc (.cells #[.int .i64 n, .int .i64 f, .int .i64 s, .int .i64 dl, .int .i64 ks, .int .i64 ee, .int .i64 wd, .int .i64 rh, .int .i64 sl, .int .i64 cp] 23 (0, 0))).heap.size 3 1 (.slice A L.length c) L.length (L.map (Value.int .i64))) := ⟨O5.out⟩
                  have MQ := Q5M
                  go_upto_region 21 with (fail)
                  go_region_held3 (fun W => W.cell? (ad3.add k.toNat) = some (.int .i64 t)) (go_keep) (first | (go_at_call 16; go_loud (refine (other_any g bm k.toNat n f s dl ks ee wd rh sl cp i la le t r p o 0 M _ _ Q5I.out Q5B.out Q5M.out hbm HM0.out HK.out HP.out r0 r1 (by omega) 0 M2 HR.out HM2.out).mono ?_; rintro en w6 ⟨rfl, a1, a2, a3, a4⟩; have M6 := Aside0.mk a1; have I6 := Aside0.mk a2; have B6 := Aside0.mk a3; have J6 := Aside0.mk (JQ.out.grown a4 (fun e => hbh (Option.some.inj e).symm)); have O6 := Aside0.mk (OQ.out.kept a4 (Or.inr (own_off_map OQ.out MQ.out))); have x3_w6 : w6.cell? (ad3.add k.toNat) = some (.int .i64 t) := HOLD.out _ a3 _ _ X3.out; clear a1 a2 a3 a4)) | (go_at_call 19; go_loud (refine (RO.out _ J6.out B6.out O6.out).mono ?_; rintro en w7 ⟨A', c', rfl, a1, a2, a3, a4⟩; have gg := grown_of_keep B6.out a3 a4; have J7 := Aside0.mk a1; have O7 := Aside0.mk a2; have B7 := Aside0.mk a3; have M7 := Aside0.mk (M6.out.kept gg (fun e => hbh (Option.some.inj e))); have I7 := Aside0.mk (IsG.grown I6.out gg (fun e => hgh (Option.some.inj e))); have x3_w7 : w7.cell? (ad3.add k.toNat) = some (.int .i64 t) := HOLD.out _ a3 _ _ X3.out; clear a1 a2 a3 a4 gg)))
                  go_upto_region 23 with (fail)
                  have y11 : w7.cell? ⟨h, 11, none⟩ = some (.int .i64 la) := (blk_cell J7.out.1 11).trans rfl
                  have QI := Aside0.mk (IsG.drew I7.out)
                  go_region_held3 (fun W => W.cell? ⟨h, 11, none⟩ = some (.int .i64 la)) (go_keep) (first | (go_at_call 15; go_loud (refine (last_ok g bm n f s dl ks ee wd rh sl cp i la le _ _ QI.out).mono ?_; rintro en wq ⟨rfl, rfl⟩)))
                  go_wp2
                  go_roundw
                  case rel => exact by first | exact ⟨k + 1, la, le, M2, L2, A', c', by go_num, by omega, by omega, by omega, by omega, HREL2, HL3, by omega, ⟨IsG.drew I7.out⟩, ⟨by rw [show (k + 1).toNat = k.toNat + 1 by omega]; exact (show MapIs w7.drew _ _ _ from M7.out)⟩, ⟨IsR.drew J7.out⟩, ⟨show w7.drew.ownsRow _ _ _ _ _ _ from O7.out⟩, ⟨below_drew1 B7.out⟩⟩ | exact ⟨k + 1, la, le, M2, L2, A', c', by go_num, by omega, by omega, by omega, by omega, HREL2, HL3, by omega, I7, ⟨by rw [show (k + 1).toNat = k.toNat + 1 by omega]; exact M7.out⟩, J7, O7, B7⟩
                  case measure => simp [intOf]; omega
              · have he1 : e ≠ 0 := by omega
                have HR := Aside0.mk (show otherR n r e M = 1 by unfold otherR; rw [if_pos he1]; exact he0)
                have HM2 := Aside0.mk (show otherM n r e M = M by unfold otherM; rw [if_pos he1])
                have Q5I := Aside0.mk (IsG.drew I5.out)
                have Q5B := Aside0.mk (below_drew1 B5.out)
                have Q5M : Aside0 (MapIs wr.drew bm k.toNat M) := ⟨M5.out⟩
                have JQ := Aside0.mk (IsR.drew J5.out)
                have OQ : Aside0 (wr.drew.ownsRow (w.alloc (.cells #[.int .i64 n, .int .i64 f, .int .i64 s, .int .i64 dl, .int .i64 ks, .int .i64 ee, .int .i64 wd, .int .i64 rh, .int .i64 sl, .int .i64 cp] 23 (0, 0))).heap.size 3 1 (.slice A L.length c) L.length (L.map (Value.int .i64))) := ⟨O5.out⟩
                have MQ := Q5M
                go_upto_region 21 with (fail)
                go_region_held3 (fun W => W.cell? (ad3.add k.toNat) = some (.int .i64 t)) (go_keep) (first | (go_at_call 16; go_loud (refine (other_any g bm k.toNat n f s dl ks ee wd rh sl cp i la le t r p o e M _ _ Q5I.out Q5B.out Q5M.out hbm HM0.out HK.out HP.out r0 r1 (by omega) 1 M HR.out HM2.out).mono ?_; rintro en w6 ⟨rfl, a1, a2, a3, a4⟩; have M6 := Aside0.mk a1; have I6 := Aside0.mk a2; have B6 := Aside0.mk a3; have J6 := Aside0.mk (JQ.out.grown a4 (fun e => hbh (Option.some.inj e).symm)); have O6 := Aside0.mk (OQ.out.kept a4 (Or.inr (own_off_map OQ.out MQ.out))); have x3_w6 : w6.cell? (ad3.add k.toNat) = some (.int .i64 t) := HOLD.out _ a3 _ _ X3.out; clear a1 a2 a3 a4)) | (go_at_call 19; go_loud (refine (rother_e h n f s dl ks ee wd rh sl cp i la le A c L t r p o e _ _ J6.out B6.out HRP.out he1).mono ?_; rintro en w7 ⟨rfl, a1, a2, a3⟩; have gg := grown_of_keep B6.out a2 a3; have J7 := Aside0.mk a1; have B7 := Aside0.mk a2; have M7 := Aside0.mk (M6.out.kept gg (fun e => hbh (Option.some.inj e))); have I7 := Aside0.mk (IsG.grown I6.out gg (fun e => hgh (Option.some.inj e))); have O7 := Aside0.mk (O6.out.kept gg (Or.inr (own_off O6.out J6.out.1 (by decide)))); have x3_w7 : w7.cell? (ad3.add k.toNat) = some (.int .i64 t) := HOLD.out _ a2 _ _ X3.out; clear a1 a2 a3 gg)))
                go_upto_region 23 with (fail)
                have y11 : w7.cell? ⟨h, 11, none⟩ = some (.int .i64 la) := (blk_cell J7.out.1 11).trans rfl
                have QI := Aside0.mk (IsG.drew I7.out)
                go_region_held3 (fun W => W.cell? ⟨h, 11, none⟩ = some (.int .i64 la)) (go_keep) (first | (go_at_call 15; go_loud (refine (last_ok g bm n f s dl ks ee wd rh sl cp i la le _ _ QI.out).mono ?_; rintro en wq ⟨rfl, rfl⟩)))
                go_wp2
                go_roundw
                case rel => exact by first | exact ⟨k + 1, la, le, M, L, A, c, by go_num, by omega, by omega, by omega, by omega, HREL, HL2, by omega, ⟨IsG.drew I7.out⟩, ⟨by rw [show (k + 1).toNat = k.toNat + 1 by omega]; exact (show MapIs w7.drew _ _ _ from M7.out)⟩, ⟨IsR.drew J7.out⟩, ⟨show w7.drew.ownsRow _ _ _ _ _ _ from O7.out⟩, ⟨below_drew1 B7.out⟩⟩ | exact ⟨k + 1, la, le, M, L, A, c, by go_num, by omega, by omega, by omega, by omega, HREL, HL2, by omega, I7, ⟨by rw [show (k + 1).toNat = k.toNat + 1 by omega]; exact M7.out⟩, J7, O7, B7⟩
                case measure => simp [intOf]; omega
          · as_aux_lemma =>
              have ht : -100 ≤ t.tmod 100 ∧ t.tmod 100 ≤ 100 := by
                have := Int.tmod_lt_of_pos t (show (0 : Int) < 100 by decide)
                have := Int.lt_tmod_of_pos t (show (0 : Int) < 100 by decide)
                omega
              obtain ⟨m, hm⟩ : ∃ m, t.tmod 100 = m := ⟨_, rfl⟩
              rw [hm] at ht
              have hm0 : 0 ≤ (if m < 0 then 0 else m) ∧ (if m < 0 then 0 else m) ≤ 100 := by split <;> omega
              obtain ⟨m2, hm2⟩ : ∃ m2, (if m < 0 then 0 else m) = m2 := ⟨_, rfl⟩
              have FO : Aside0 (∀ (W : World), IsG (w.alloc (.cells #[.int .i64 n, .int .i64 f, .int .i64 s, .int .i64 dl, .int .i64 ks, .int .i64 ee, .int .i64 wd, .int .i64 rh, .int .i64 sl, .int .i64 cp] 23 (0, 0))) W g bm n f s dl ks ee wd rh sl cp i la le → Below (w.alloc (.cells #[.int .i64 n, .int .i64 f, .int .i64 s, .int .i64 dl, .int .i64 ks, .int .i64 ee, .int .i64 wd, .int .i64 rh, .int .i64 sl, .int .i64 cp] 23 (0, 0))).heap.size (w.alloc (.cells #[.int .i64 n, .int .i64 f, .int .i64 s, .int .i64 dl, .int .i64 ks, .int .i64 ee, .int .i64 wd, .int .i64 rh, .int .i64 sl, .int .i64 cp] 23 (0, 0))) W → Calls Try.prog 20 #[.pointer (some ⟨g, 0, none⟩), .int .i64 m] W fun en w' => en = .returned (.tuple #[]) ∧ IsG (w.alloc (.cells #[.int .i64 n, .int .i64 f, .int .i64 s, .int .i64 dl, .int .i64 ks, .int .i64 ee, .int .i64 wd, .int .i64 rh, .int .i64 sl, .int .i64 cp] 23 (0, 0))) w' g bm n f s dl ks ee wd rh sl cp i (-1) m2 ∧ Below (w.alloc (.cells #[.int .i64 n, .int .i64 f, .int .i64 s, .int .i64 dl, .int .i64 ks, .int .i64 ee, .int .i64 wd, .int .i64 rh, .int .i64 sl, .int .i64 cp] 23 (0, 0))).heap.size (w.alloc (.cells #[.int .i64 n, .int .i64 f, .int .i64 s, .int .i64 dl, .int .i64 ks, .int .i64 ee, .int .i64 wd, .int .i64 rh, .int .i64 sl, .int .i64 cp] 23 (0, 0))) w' ∧ KeepBut W w' g none) := ⟨fun W h1 h2 => by have := forget_ok g bm n f s dl ks ee wd rh sl cp i la le m (w.alloc (.cells #[.int .i64 n, .int .i64 f, .int .i64 s, .int .i64 dl, .int .i64 ks, .int .i64 ee, .int .i64 wd, .int .i64 rh, .int .i64 sl, .int .i64 cp] 23 (0, 0))) W h1 h2; rw [hm2] at this; exact this⟩
              have RFO : Aside0 (∀ (W : World), IsR (w.alloc (.cells #[.int .i64 n, .int .i64 f, .int .i64 s, .int .i64 dl, .int .i64 ks, .int .i64 ee, .int .i64 wd, .int .i64 rh, .int .i64 sl, .int .i64 cp] 23 (0, 0))) W h n f s dl ks ee wd rh sl cp i la le A L.length c → Below (w.alloc (.cells #[.int .i64 n, .int .i64 f, .int .i64 s, .int .i64 dl, .int .i64 ks, .int .i64 ee, .int .i64 wd, .int .i64 rh, .int .i64 sl, .int .i64 cp] 23 (0, 0))).heap.size (w.alloc (.cells #[.int .i64 n, .int .i64 f, .int .i64 s, .int .i64 dl, .int .i64 ks, .int .i64 ee, .int .i64 wd, .int .i64 rh, .int .i64 sl, .int .i64 cp] 23 (0, 0))) W → Calls Try.prog 21 #[.pointer (some ⟨h, 0, none⟩), .int .i64 m] W fun en w' => en = .returned (.tuple #[]) ∧ IsR (w.alloc (.cells #[.int .i64 n, .int .i64 f, .int .i64 s, .int .i64 dl, .int .i64 ks, .int .i64 ee, .int .i64 wd, .int .i64 rh, .int .i64 sl, .int .i64 cp] 23 (0, 0))) w' h n f s dl ks ee wd rh sl cp i (-1) m2 A L.length c ∧ Below (w.alloc (.cells #[.int .i64 n, .int .i64 f, .int .i64 s, .int .i64 dl, .int .i64 ks, .int .i64 ee, .int .i64 wd, .int .i64 rh, .int .i64 sl, .int .i64 cp] 23 (0, 0))).heap.size (w.alloc (.cells #[.int .i64 n, .int .i64 f, .int .i64 s, .int .i64 dl, .int .i64 ks, .int .i64 ee, .int .i64 wd, .int .i64 rh, .int .i64 sl, .int .i64 cp] 23 (0, 0))) w' ∧ KeepBut W w' h none) := ⟨fun W h1 h2 => by have := rforget_ok h n f s dl ks ee wd rh sl cp i la le A c L m (w.alloc (.cells #[.int .i64 n, .int .i64 f, .int .i64 s, .int .i64 dl, .int .i64 ks, .int .i64 ee, .int .i64 wd, .int .i64 rh, .int .i64 sl, .int .i64 cp] 23 (0, 0))) W h1 h2; rw [hm2] at this; exact this⟩
              rw [hm2] at hm0
              obtain ⟨hm0, hm1⟩ := hm0
              clear hm2 ht
              go_upto_region 23 with (first | (go_at_call 20; go_loud (refine (FO.out _ I5.out B5.out).mono ?_; rintro en w6 ⟨rfl, a1, a2, a3⟩; have gg := grown_of_keep B5.out a2 a3; have I6 := Aside0.mk a1; have B6 := Aside0.mk a2; have M6 := Aside0.mk (M5.out.kept gg (fun e => hbg (Option.some.inj e))); have J6 := Aside0.mk (J5.out.grown gg (fun e => hgh (Option.some.inj e).symm)); have O6 := Aside0.mk (O5.out.kept gg (Or.inr (own_off O5.out I5.out.1 (by decide)))); have x3_w6 : w6.cell? (ad3.add k.toNat) = some (.int .i64 t) := HOLD.out _ a2 _ _ X3.out; clear a1 a2 a3 gg)) | (go_at_call 21; go_loud (refine (RFO.out _ J6.out B6.out).mono ?_; rintro en w7 ⟨rfl, a1, a2, a3⟩; have gg := grown_of_keep B6.out a2 a3; have J7 := Aside0.mk a1; have B7 := Aside0.mk a2; have M7 := Aside0.mk (M6.out.kept gg (fun e => hbh (Option.some.inj e))); have I7 := Aside0.mk (IsG.grown I6.out gg (fun e => hgh (Option.some.inj e))); have O7 := Aside0.mk (O6.out.kept gg (Or.inr (own_off O6.out J6.out.1 (by decide)))); have x3_w7 : w7.cell? (ad3.add k.toNat) = some (.int .i64 t) := HOLD.out _ a2 _ _ X3.out; clear a1 a2 a3 gg)))
              have y11 : w7.cell? ⟨h, 11, none⟩ = some (.int .i64 (-1)) := (blk_cell J7.out.1 11).trans rfl
              have QI := Aside0.mk (IsG.drew I7.out)
              go_region_held3 (fun W => W.cell? ⟨h, 11, none⟩ = some (.int .i64 (-1))) (go_keep) (first | (go_at_call 15; go_loud (refine (last_ok g bm n f s dl ks ee wd rh sl cp i (-1) m2 _ _ QI.out).mono ?_; rintro en wq ⟨rfl, rfl⟩)))
              go_wp2
              go_roundw
              case rel => exact by first | exact ⟨k + 1, (-1), m2, M, L, A, c, by go_num, by omega, by omega, by omega, by omega, HREL, HL2, by omega, ⟨IsG.drew I7.out⟩, ⟨MapIs.mono (show MapIs w7.drew _ _ _ from M7.out) (by omega)⟩, ⟨IsR.drew J7.out⟩, ⟨show w7.drew.ownsRow _ _ _ _ _ _ from O7.out⟩, ⟨below_drew1 B7.out⟩⟩ | exact ⟨k + 1, (-1), m2, M, L, A, c, by go_num, by omega, by omega, by omega, by omega, HREL, HL2, by omega, I7, ⟨MapIs.mono M7.out (by omega)⟩, J7, O7, B7⟩
              case measure => simp [intOf]; omega
        · have c8b : decide (k < 200) = false := decide_eq_false c8
          go_wp2_with (first | (go_at_call 12; go_loud (refine (awake_ok _).mono ?_; rintro en w8 ⟨rfl, hb2⟩; have HB2 := Aside0.mk (below_step (below_weaken (below_alloc (Below.refl _ _) (.cells #[.int .i64 n, .int .i64 f, .int .i64 s, .int .i64 dl, .int .i64 ks, .int .i64 ee, .int .i64 wd, .int .i64 rh, .int .i64 sl, .int .i64 cp] 23 (0, 0))) (by simp) B5.out) hb2); clear hb2)))
          go_ret
          exact ⟨rfl, HB2.out⟩
      · have c6b : decide (k < (l3.length : Int)) = false := decide_eq_false c6
        go_wp2_with (first | (go_at_call 12; go_loud (refine (awake_ok _).mono ?_; rintro en w8 ⟨rfl, hb2⟩; have HB2 := Aside0.mk (below_step (below_weaken (below_alloc (Below.refl _ _) (.cells #[.int .i64 n, .int .i64 f, .int .i64 s, .int .i64 dl, .int .i64 ks, .int .i64 ee, .int .i64 wd, .int .i64 rh, .int .i64 sl, .int .i64 cp] 23 (0, 0))) (by simp) B5.out) hb2); clear hb2)))
        go_ret
        exact ⟨rfl, HB2.out⟩
    · have c5b : decide (k < (l2.length : Int)) = false := decide_eq_false c5
      go_wp2_with (first | (go_at_call 12; go_loud (refine (awake_ok _).mono ?_; rintro en w8 ⟨rfl, hb2⟩; have HB2 := Aside0.mk (below_step (below_weaken (below_alloc (Below.refl _ _) (.cells #[.int .i64 n, .int .i64 f, .int .i64 s, .int .i64 dl, .int .i64 ks, .int .i64 ee, .int .i64 wd, .int .i64 rh, .int .i64 sl, .int .i64 cp] 23 (0, 0))) (by simp) B5.out) hb2); clear hb2)))
      go_ret
      exact ⟨rfl, HB2.out⟩
theorem plays_any (A2 A3 : Option Addr) (c2 c3 : Nat) (l2 l3 : List Int) (n f s dl ks ee wd rh sl cp i : Int) (w : World) (hr2 : Kd.C (Kd.int .u8) w A2 l2.length l2) (hr3 : Kd.C (Kd.int .i64) w A3 l3.length l3)
    (hw2 : ∀ x ∈ l2, (Lit.int .u8 x).wf = true) (hw3 : ∀ x ∈ l3, (Lit.int .i64 x).wf = true) (hl2 : l2.length ≤ maxLen) (hl3 : l3.length ≤ maxLen) :
    Calls Try.prog 5 #[.agg #[.int .i64 n, .int .i64 f, .int .i64 s, .int .i64 dl, .int .i64 ks, .int .i64 ee, .int .i64 wd, .int .i64 rh, .int .i64 sl, .int .i64 cp], .int .i64 i, .slice A2 l2.length c2, .slice A3 l3.length c3] w fun en w' => en = .returned (.bool true) ∧ Below w.heap.size w w' := by
  by_cases h : Ok n f s dl ks ee wd rh sl cp ∧ 0 ≤ i ∧ i < n
  · exact plays_good A2 A3 c2 c3 l2 l3 n f s dl ks ee wd rh sl cp i w hr2 hr3 hw2 hw3 hl2 hl3 h.1 h.2.1 h.2.2
  · exact plays_bad A2 A3 c2 c3 l2 l3 n f s dl ks ee wd rh sl cp i w h
end Go.Proofs.Ytfaikkhnlioajaa.Gd8
