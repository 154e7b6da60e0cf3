/- What the reference guard comes to. -/
import Derived.Test.YtfaikkhnlioajaaProg
import Derived.Below
import Derived.Deep.Draws
import Derived.Deep.AppendLies
import Derived.Maps.AppendAt
import Derived.OwnWalk
import Derived.Laws.BytesArg
import Derived.Laws.MakeOwn
import Derived.Laws.OwnMore
import Derived.Deep.OwnRows
import Derived.Tactics
import Derived.Lib.ConvBytes
import Derived.Laws.Slices
import Derived.WalkKit
import Derived.KernelRfl
import Derived.RowKit3
import Derived.Deep.LoopGhost
import Derived.Deep.QuietTactic
import Derived.BigQuiet
import Derived.WideLaws
import Derived.Deep.DeepCutAuto
import Derived.Deep.CutBlock
import Derived.Deep.RegionHeld3
import Derived.Laws.Rows
import Derived.Lib.AppendStr
import Derived.ArgAppend
import Derived.Laws.IdiomCopy
import Derived.OrdersHeld
import Derived.Laws.BitsLemmas
import Derived.RowKit
import Derived.RegionTactic
import Derived.ChangeAlike
import Derived.Outline
import Derived.LoopTactic
import Derived.WalkSpells
import Derived.WalkLawsBesides
import Derived.Lib.Hide
import Derived.StillTailTactics
import Derived.Deep.RegionWith
import Derived.Deep.RegionLaw
import Derived.Deep.DeepFit
import Derived.Deep.DeepMust
import Derived.Test.YtfaikkhnlioajaaWWords
import Derived.Test.YtfaikkhnlioajaaWLast
import Derived.Test.YtfaikkhnlioajaaWTab
import Derived.Test.YtfaikkhnlioajaaWFour
import Derived.Test.YtfaikkhnlioajaaWQPut
import Derived.Test.YtfaikkhnlioajaaWApart
import Derived.Test.YtfaikkhnlioajaaWArr
import Derived.Test.YtfaikkhnlioajaaWZeros
import Derived.Test.YtfaikkhnlioajaaWFoot
import Derived.Test.YtfaikkhnlioajaaWKept
import Derived.Test.YtfaikkhnlioajaaWShare
import Derived.Test.YtfaikkhnlioajaaWN
import Derived.Test.YtfaikkhnlioajaaWFootNe
import Derived.Test.YtfaikkhnlioajaaWAt
import Derived.Test.YtfaikkhnlioajaaWEqStruct
import Derived.Test.YtfaikkhnlioajaaWRepsOne
import Derived.Test.YtfaikkhnlioajaaWInv
import Derived.Test.YtfaikkhnlioajaaWInvWords
import Derived.Test.YtfaikkhnlioajaaWGuard
import Derived.Test.YtfaikkhnlioajaaWNEv
import Derived.Test.YtfaikkhnlioajaaWMore
import Derived.Test.YtfaikkhnlioajaaGd5
namespace Go.Proofs.Ytfaikkhnlioajaa.Gd6
open Go.RowKit Go.Proofs.YtfaikkhnlioajaaW.PrintWords Go.Proofs.YtfaikkhnlioajaaW.PrintLast Go.Proofs.YtfaikkhnlioajaaW.PrintMore 
attribute [local go_sem] max2_int min2_int max_two min_two max_three min_three max_four min_four
set_option linter.unusedVariables false
set_option linter.unusedSimpArgs false
open Go.Proofs.Ytfaikkhnlioajaa.QBase Go.Proofs.Ytfaikkhnlioajaa.Sch Go.Proofs.Ytfaikkhnlioajaa.Plc Go.Proofs.Ytfaikkhnlioajaa.Gd1 Go.Proofs.Ytfaikkhnlioajaa.Gd2 Go.Proofs.Ytfaikkhnlioajaa.Gd3 Go.Proofs.Ytfaikkhnlioajaa.Gd4 Go.Proofs.Ytfaikkhnlioajaa.Gd5 Go.Maps
attribute [local go_sem] cellS1 frozenS1 cellS2 frozenS2 cellS3 frozenS3 cellS4 frozenS4
/-- A reference guard in memory. -/
def IsR (z w : World) (h : Nat) (n f s dl ks ee wd rh sl cp i la le : Int) (A : Option Addr) (nn c : Nat) : Prop := w.heap[h]? = some (.cells #[.int .i64 n, .int .i64 f, .int .i64 s, .int .i64 dl, .int .i64 ks, .int .i64 ee, .int .i64 wd, .int .i64 rh, .int .i64 sl, .int .i64 cp, .int .i64 i, .int .i64 la, .int .i64 le, .slice A nn c] 50 (0, 0)) ∧ z.heap.size ≤ h
theorem IsR.set_11 {z w : World} {h : Nat} {n f s dl ks ee wd rh sl cp i la le : Int} {A : Option Addr} {nn c : Nat} (hh : IsR z w h n f s dl ks ee wd rh sl cp i la le A nn c) (x : Int) : IsR z (w.setCell ⟨h, 11, none⟩ (.int .i64 x)) h n f s dl ks ee wd rh sl cp i x le A nn c := ⟨blk_put hh.1 11 _ rfl, hh.2⟩
theorem IsR.set_12 {z w : World} {h : Nat} {n f s dl ks ee wd rh sl cp i la le : Int} {A : Option Addr} {nn c : Nat} (hh : IsR z w h n f s dl ks ee wd rh sl cp i la le A nn c) (x : Int) : IsR z (w.setCell ⟨h, 12, none⟩ (.int .i64 x)) h n f s dl ks ee wd rh sl cp i la x A nn c := ⟨blk_put hh.1 12 _ rfl, hh.2⟩
theorem IsR.set_13 {z w : World} {h : Nat} {n f s dl ks ee wd rh sl cp i la le : Int} {A : Option Addr} {nn c : Nat} (hh : IsR z w h n f s dl ks ee wd rh sl cp i la le A nn c) (A2 : Option Addr) (n2 c2 : Nat) : IsR z (w.setCell ⟨h, 13, none⟩ (.slice A2 n2 c2)) h n f s dl ks ee wd rh sl cp i la le A2 n2 c2 := ⟨blk_put hh.1 13 _ rfl, hh.2⟩
theorem IsR.alloc {z w : World} {h : Nat} {n f s dl ks ee wd rh sl cp i la le : Int} {A : Option Addr} {nn c : Nat} (hh : IsR z w h n f s dl ks ee wd rh sl cp i la le A nn c) (o : Obj) : IsR z (w.alloc o) h n f s dl ks ee wd rh sl cp i la le A nn c := ⟨blk_alloc hh.1 o, hh.2⟩
theorem IsR.drewN {z w : World} {h : Nat} {n f s dl ks ee wd rh sl cp i la le : Int} {A : Option Addr} {nn c : Nat} (hh : IsR z w h n f s dl ks ee wd rh sl cp i la le A nn c) (m : Nat) : IsR z (w.drewN m) h n f s dl ks ee wd rh sl cp i la le A nn c := hh
theorem IsR.drew {z w : World} {h : Nat} {n f s dl ks ee wd rh sl cp i la le : Int} {A : Option Addr} {nn c : Nat} (hh : IsR z w h n f s dl ks ee wd rh sl cp i la le A nn c) : IsR z w.drew h n f s dl ks ee wd rh sl cp i la le A nn c := hh
theorem IsR.grown {z w w' : World} {h : Nat} {n f s dl ks ee wd rh sl cp i la le : Int} {A : Option Addr} {nn c : Nat} {row : Option Nat} (hh : IsR z w h n f s dl ks ee wd rh sl cp i la le A nn c) (hg : w.grownBy w' row) (hne : some h ≠ row) : IsR z w' h n f s dl ks ee wd rh sl cp i la le A nn c := ⟨blk_grown hh.1 hg hne, hh.2⟩
set_option maxRecDepth 100000 in
set_option maxHeartbeats 4000000 in
theorem rnew_yes (n f s dl ks ee wd rh sl cp i : Int) (w : World) (hk : Ok n f s dl ks ee wd rh sl cp) (i0 : 0 ≤ i) (i1 : i < n) : Calls Try.prog 17 #[.agg #[.int .i64 n, .int .i64 f, .int .i64 s, .int .i64 dl, .int .i64 ks, .int .i64 ee, .int .i64 wd, .int .i64 rh, .int .i64 sl, .int .i64 cp], .int .i64 i] w fun en w' => ∃ h, en = .returned (.tuple #[.pointer (some ⟨h, 0, none⟩), .int .i64 0]) ∧ IsR w w' h n f s dl ks ee wd rh sl cp i (-1) 0 none 0 0 ∧ Below w.heap.size w w' := by
  have HK := Aside0.mk (rcheck_in n f s dl ks ee wd rh sl cp hk)
  clear hk
  go_enter Try.func17, Try.ntmps17
  go_wp2_with (first | (go_at_call 51; go_loud (refine (carillonref16_Check.calls n f s dl ks ee wd rh sl cp 0 _ HK.out).mono ?_; rintro en w1 ⟨rfl, hb⟩; have hbk := blk_below (blk_new w (.cells #[.int .i64 n, .int .i64 f, .int .i64 s, .int .i64 dl, .int .i64 ks, .int .i64 ee, .int .i64 wd, .int .i64 rh, .int .i64 sl, .int .i64 cp] 23 (0, 0))) hb; have c0 : w1.cell? ⟨w.heap.size, 0, none⟩ = some (.int .i64 n) := (blk_cell hbk 0).trans rfl; have c1 : w1.cell? ⟨w.heap.size, 1, none⟩ = some (.int .i64 f) := (blk_cell hbk 1).trans rfl; have c2 : w1.cell? ⟨w.heap.size, 2, none⟩ = some (.int .i64 s) := (blk_cell hbk 2).trans rfl; have c3 : w1.cell? ⟨w.heap.size, 3, none⟩ = some (.int .i64 dl) := (blk_cell hbk 3).trans rfl; have c4 : w1.cell? ⟨w.heap.size, 4, none⟩ = some (.int .i64 ks) := (blk_cell hbk 4).trans rfl; have c5 : w1.cell? ⟨w.heap.size, 5, none⟩ = some (.int .i64 ee) := (blk_cell hbk 5).trans rfl; have c6 : w1.cell? ⟨w.heap.size, 6, none⟩ = some (.int .i64 wd) := (blk_cell hbk 6).trans rfl; have c7 : w1.cell? ⟨w.heap.size, 7, none⟩ = some (.int .i64 rh) := (blk_cell hbk 7).trans rfl; have c8 : w1.cell? ⟨w.heap.size, 8, none⟩ = some (.int .i64 sl) := (blk_cell hbk 8).trans rfl; have c9 : w1.cell? ⟨w.heap.size, 9, none⟩ = some (.int .i64 cp) := (blk_cell hbk 9).trans rfl; have HW := Aside0.mk (below_step (below_alloc (Below.refl _ _) (.cells #[.int .i64 n, .int .i64 f, .int .i64 s, .int .i64 dl, .int .i64 ks, .int .i64 ee, .int .i64 wd, .int .i64 rh, .int .i64 sl, .int .i64 cp] 23 (0, 0))) hb); clear hb)))
  go_ret2
  exact ⟨_, rfl, ⟨blk_new _ _, HW.out.size⟩, below_alloc HW.out _⟩
set_option maxRecDepth 100000 in
set_option maxHeartbeats 4000000 in
theorem rnew_bad (n f s dl ks ee wd rh sl cp i : Int) (w : World) (hk : ¬ Ok n f s dl ks ee wd rh sl cp) : Calls Try.prog 17 #[.agg #[.int .i64 n, .int .i64 f, .int .i64 s, .int .i64 dl, .int .i64 ks, .int .i64 ee, .int .i64 wd, .int .i64 rh, .int .i64 sl, .int .i64 cp], .int .i64 i] w fun en w' => en = .returned (.tuple #[.pointer none, .int .i64 1]) ∧ Below w.heap.size w w' := by
  have HK := Aside0.mk (rcheck_out n f s dl ks ee wd rh sl cp hk)
  clear hk
  go_enter Try.func17, Try.ntmps17
  go_wp2_with (first | (go_at_call 51; go_loud (refine (carillonref16_Check.calls n f s dl ks ee wd rh sl cp 1 _ HK.out).mono ?_; rintro en w1 ⟨rfl, hb⟩; have hbk := blk_below (blk_new w (.cells #[.int .i64 n, .int .i64 f, .int .i64 s, .int .i64 dl, .int .i64 ks, .int .i64 ee, .int .i64 wd, .int .i64 rh, .int .i64 sl, .int .i64 cp] 23 (0, 0))) hb; have c0 : w1.cell? ⟨w.heap.size, 0, none⟩ = some (.int .i64 n) := (blk_cell hbk 0).trans rfl)))
  go_ret2
  exact ⟨rfl, below_step (below_alloc (Below.refl _ _) _) hb⟩
set_option maxRecDepth 100000 in
set_option maxHeartbeats 4000000 in
theorem rnew_low (n f s dl ks ee wd rh sl cp i : Int) (w : World) (hk : Ok n f s dl ks ee wd rh sl cp) (h : i < 0) : Calls Try.prog 17 #[.agg #[.int .i64 n, .int .i64 f, .int .i64 s, .int .i64 dl, .int .i64 ks, .int .i64 ee, .int .i64 wd, .int .i64 rh, .int .i64 sl, .int .i64 cp], .int .i64 i] w fun en w' => en = .returned (.tuple #[.pointer none, .int .i64 1]) ∧ Below w.heap.size w w' := by
  have HK := Aside0.mk (rcheck_in n f s dl ks ee wd rh sl cp hk)
  clear hk
  go_enter Try.func17, Try.ntmps17
  go_wp2_with (first | (go_at_call 51; go_loud (refine (carillonref16_Check.calls n f s dl ks ee wd rh sl cp 0 _ HK.out).mono ?_; rintro en w1 ⟨rfl, hb⟩; have hbk := blk_below (blk_new w (.cells #[.int .i64 n, .int .i64 f, .int .i64 s, .int .i64 dl, .int .i64 ks, .int .i64 ee, .int .i64 wd, .int .i64 rh, .int .i64 sl, .int .i64 cp] 23 (0, 0))) hb; have c0 : w1.cell? ⟨w.heap.size, 0, none⟩ = some (.int .i64 n) := (blk_cell hbk 0).trans rfl)))
  go_ret2
  exact ⟨rfl, below_step (below_alloc (Below.refl _ _) _) hb⟩
set_option maxRecDepth 100000 in
set_option maxHeartbeats 4000000 in
theorem rnew_high (n f s dl ks ee wd rh sl cp i : Int) (w : World) (hk : Ok n f s dl ks ee wd rh sl cp) (i0 : 0 ≤ i) (h : n ≤ i) : Calls Try.prog 17 #[.agg #[.int .i64 n, .int .i64 f, .int .i64 s, .int .i64 dl, .int .i64 ks, .int .i64 ee, .int .i64 wd, .int .i64 rh, .int .i64 sl, .int .i64 cp], .int .i64 i] w fun en w' => en = .returned (.tuple #[.pointer none, .int .i64 1]) ∧ Below w.heap.size w w' := by
  have HK := Aside0.mk (rcheck_in n f s dl ks ee wd rh sl cp hk)
  clear hk
  go_enter Try.func17, Try.ntmps17
  go_wp2_with (first | (go_at_call 51; go_loud (refine (carillonref16_Check.calls n f s dl ks ee wd rh sl cp 0 _ HK.out).mono ?_; rintro en w1 ⟨rfl, hb⟩; have hbk := blk_below (blk_new w (.cells #[.int .i64 n, .int .i64 f, .int .i64 s, .int .i64 dl, .int .i64 ks, .int .i64 ee, .int .i64 wd, .int .i64 rh, .int .i64 sl, .int .i64 cp] 23 (0, 0))) hb; have c0 : w1.cell? ⟨w.heap.size, 0, none⟩ = some (.int .i64 n) := (blk_cell hbk 0).trans rfl)))
  go_ret2
  exact ⟨rfl, below_step (below_alloc (Below.refl _ _) _) hb⟩
theorem rnew_not (n f s dl ks ee wd rh sl cp i : Int) (w : World) (h : ¬ (Ok n f s dl ks ee wd rh sl cp ∧ 0 ≤ i ∧ i < n)) : Calls Try.prog 17 #[.agg #[.int .i64 n, .int .i64 f, .int .i64 s, .int .i64 dl, .int .i64 ks, .int .i64 ee, .int .i64 wd, .int .i64 rh, .int .i64 sl, .int .i64 cp], .int .i64 i] w fun en w' => en = .returned (.tuple #[.pointer none, .int .i64 1]) ∧ Below w.heap.size w w' := by
  by_cases hk : Ok n f s dl ks ee wd rh sl cp
  · by_cases i0 : 0 ≤ i
    · exact rnew_high n f s dl ks ee wd rh sl cp i w hk i0 (by by_cases h1 : i < n; exact absurd ⟨hk, i0, h1⟩ h; omega)
    · exact rnew_low n f s dl ks ee wd rh sl cp i w hk (by omega)
  · exact rnew_bad n f s dl ks ee wd rh sl cp i w hk
set_option maxRecDepth 100000 in
set_option maxHeartbeats 4000000 in
theorem rdata_e (h : Nat) (n f s dl ks ee wd rh sl cp i la le : Int) (A : Option Addr) (c : Nat) (L : List Int) (t r p o e : Int) (z w : World) (hI : IsR z w h n f s dl ks ee wd rh sl cp i la le A L.length c) (hB : Below z.heap.size z w) (hp : carillonref16_Place.f 1 n f s dl ks ee wd rh sl cp t = some (r, p, o, e)) (he : e ≠ 0) : Calls Try.prog 18 #[.pointer (some ⟨h, 0, none⟩), .int .i64 t] w fun en w' => en = .returned (.tuple #[.int .i64 0, .int .i64 1]) ∧ IsR z w' h n f s dl ks ee wd rh sl cp i la le A L.length c ∧ Below z.heap.size z w' ∧ KeepBut w w' h none := by
  have c0 : w.cell? ⟨h, 0, none⟩ = some (.int .i64 n) := (blk_cell hI.1 0).trans rfl
  have c1 : w.cell? ⟨h, 1, none⟩ = some (.int .i64 f) := (blk_cell hI.1 1).trans rfl
  have c2 : w.cell? ⟨h, 2, none⟩ = some (.int .i64 s) := (blk_cell hI.1 2).trans rfl
  have c3 : w.cell? ⟨h, 3, none⟩ = some (.int .i64 dl) := (blk_cell hI.1 3).trans rfl
  have c4 : w.cell? ⟨h, 4, none⟩ = some (.int .i64 ks) := (blk_cell hI.1 4).trans rfl
  have c5 : w.cell? ⟨h, 5, none⟩ = some (.int .i64 ee) := (blk_cell hI.1 5).trans rfl
  have c6 : w.cell? ⟨h, 6, none⟩ = some (.int .i64 wd) := (blk_cell hI.1 6).trans rfl
  have c7 : w.cell? ⟨h, 7, none⟩ = some (.int .i64 rh) := (blk_cell hI.1 7).trans rfl
  have c8 : w.cell? ⟨h, 8, none⟩ = some (.int .i64 sl) := (blk_cell hI.1 8).trans rfl
  have c9 : w.cell? ⟨h, 9, none⟩ = some (.int .i64 cp) := (blk_cell hI.1 9).trans rfl
  have hgs : h < w.heap.size := blk_lt hI.1
  have HI := Aside0.mk hI
  have HB := Aside0.mk hB
  have HP := Aside0.mk hp
  have heb : (e != 0) = true := by simp [he]
  clear hI hB hp
  go_enter Try.func18, Try.ntmps18
  go_wp2_with (first | (go_at_call 52; go_loud (refine (carillonref16_Place.calls 1 n f s dl ks ee wd rh sl cp t r p o e _ HP.out).mono ?_; rintro en w2 ⟨rfl, hb⟩; have I2 : Aside0 (IsR z w2 h n f s dl ks ee wd rh sl cp i la le A L.length c) := ⟨blk_below HI.out.1 hb, HI.out.2⟩; have B2 := Aside0.mk (below_step HB.out hb); have K2 := Aside0.mk (KeepBut.of_below hb h none); have hs2 : h < w2.heap.size := Nat.lt_of_lt_of_le hgs hb.size; have k0 : w2.cell? ⟨h, 0, none⟩ = some (.int .i64 n) := (blk_cell I2.out.1 0).trans rfl; have k10 : w2.cell? ⟨h, 10, none⟩ = some (.int .i64 i) := (blk_cell I2.out.1 10).trans rfl; have k11 : w2.cell? ⟨h, 11, none⟩ = some (.int .i64 la) := (blk_cell I2.out.1 11).trans rfl; have k12 : w2.cell? ⟨h, 12, none⟩ = some (.int .i64 le) := (blk_cell I2.out.1 12).trans rfl; have k13 : w2.cell? ⟨h, 13, none⟩ = some (.slice A L.length c) := (blk_cell I2.out.1 13).trans rfl; have fz11 : w2.frozen? ⟨h, 11, none⟩ = false := blk_frozen I2.out.1 11; have fz13 : w2.frozen? ⟨h, 13, none⟩ = false := blk_frozen I2.out.1 13; clear hb)))
  go_ret2
  exact ⟨rfl, by repeat (first | exact I2.out | (with_reducible apply IsR.drewN) | (with_reducible apply IsR.drew) | (with_reducible apply IsR.alloc) | (with_reducible apply IsR.set_11)), by repeat (first | exact B2.out | (with_reducible apply pw_below_drewN) | (with_reducible apply below_drew1) | (with_reducible refine below_alloc ?_ _) | (refine Below.setCell (p := ⟨h, 11, none⟩) ?_ I2.out.2 _)), by repeat (first | exact K2.out | (with_reducible refine keep_drewN ?_ _) | (with_reducible refine keep_drew ?_) | (with_reducible refine keep_alloc ?_ _) | (with_reducible refine KeepBut.set_ ?_ _ _))⟩
set_option maxRecDepth 100000 in
set_option maxHeartbeats 4000000 in
theorem rdata_slot (h : Nat) (n f s dl ks ee wd rh sl cp i la le : Int) (A : Option Addr) (c : Nat) (L : List Int) (t r p o e : Int) (z w : World) (hI : IsR z w h n f s dl ks ee wd rh sl cp i la le A L.length c) (hB : Below z.heap.size z w) (hp : carillonref16_Place.f 1 n f s dl ks ee wd rh sl cp t = some (r, p, o, 0)) (hs : p ≠ i) : Calls Try.prog 18 #[.pointer (some ⟨h, 0, none⟩), .int .i64 t] w fun en w' => en = .returned (.tuple #[.int .i64 0, .int .i64 5]) ∧ IsR z w' h n f s dl ks ee wd rh sl cp i la le A L.length c ∧ Below z.heap.size z w' ∧ KeepBut w w' h none := by
  have c0 : w.cell? ⟨h, 0, none⟩ = some (.int .i64 n) := (blk_cell hI.1 0).trans rfl
  have c1 : w.cell? ⟨h, 1, none⟩ = some (.int .i64 f) := (blk_cell hI.1 1).trans rfl
  have c2 : w.cell? ⟨h, 2, none⟩ = some (.int .i64 s) := (blk_cell hI.1 2).trans rfl
  have c3 : w.cell? ⟨h, 3, none⟩ = some (.int .i64 dl) := (blk_cell hI.1 3).trans rfl
  have c4 : w.cell? ⟨h, 4, none⟩ = some (.int .i64 ks) := (blk_cell hI.1 4).trans rfl
  have c5 : w.cell? ⟨h, 5, none⟩ = some (.int .i64 ee) := (blk_cell hI.1 5).trans rfl
  have c6 : w.cell? ⟨h, 6, none⟩ = some (.int .i64 wd) := (blk_cell hI.1 6).trans rfl
  have c7 : w.cell? ⟨h, 7, none⟩ = some (.int .i64 rh) := (blk_cell hI.1 7).trans rfl
  have c8 : w.cell? ⟨h, 8, none⟩ = some (.int .i64 sl) := (blk_cell hI.1 8).trans rfl
  have c9 : w.cell? ⟨h, 9, none⟩ = some (.int .i64 cp) := (blk_cell hI.1 9).trans rfl
  have hgs : h < w.heap.size := blk_lt hI.1
  have HI := Aside0.mk hI
  have HB := Aside0.mk hB
  have HP := Aside0.mk hp
  have hpb : (p != i) = true := by simp [hs]
  clear hI hB hp
  go_enter Try.func18, Try.ntmps18
  go_wp2_with (first | (go_at_call 52; go_loud (refine (carillonref16_Place.calls 1 n f s dl ks ee wd rh sl cp t r p o 0 _ HP.out).mono ?_; rintro en w2 ⟨rfl, hb⟩; have I2 : Aside0 (IsR z w2 h n f s dl ks ee wd rh sl cp i la le A L.length c) := ⟨blk_below HI.out.1 hb, HI.out.2⟩; have B2 := Aside0.mk (below_step HB.out hb); have K2 := Aside0.mk (KeepBut.of_below hb h none); have hs2 : h < w2.heap.size := Nat.lt_of_lt_of_le hgs hb.size; have k0 : w2.cell? ⟨h, 0, none⟩ = some (.int .i64 n) := (blk_cell I2.out.1 0).trans rfl; have k10 : w2.cell? ⟨h, 10, none⟩ = some (.int .i64 i) := (blk_cell I2.out.1 10).trans rfl; have k11 : w2.cell? ⟨h, 11, none⟩ = some (.int .i64 la) := (blk_cell I2.out.1 11).trans rfl; have k12 : w2.cell? ⟨h, 12, none⟩ = some (.int .i64 le) := (blk_cell I2.out.1 12).trans rfl; have k13 : w2.cell? ⟨h, 13, none⟩ = some (.slice A L.length c) := (blk_cell I2.out.1 13).trans rfl; have fz11 : w2.frozen? ⟨h, 11, none⟩ = false := blk_frozen I2.out.1 11; have fz13 : w2.frozen? ⟨h, 13, none⟩ = false := blk_frozen I2.out.1 13; clear hb)))
  go_quiet (fail)
  go_wp2
  go_ret2
  exact ⟨rfl, by repeat (first | exact I2.out | (with_reducible apply IsR.drewN) | (with_reducible apply IsR.drew) | (with_reducible apply IsR.alloc) | (with_reducible apply IsR.set_11)), by repeat (first | exact B2.out | (with_reducible apply pw_below_drewN) | (with_reducible apply below_drew1) | (with_reducible refine below_alloc ?_ _) | (refine Below.setCell (p := ⟨h, 11, none⟩) ?_ I2.out.2 _)), by repeat (first | exact K2.out | (with_reducible refine keep_drewN ?_ _) | (with_reducible refine keep_drew ?_) | (with_reducible refine keep_alloc ?_ _) | (with_reducible refine KeepBut.set_ ?_ _ _))⟩
set_option maxRecDepth 100000 in
set_option maxHeartbeats 4000000 in
theorem rdata_old1 (h : Nat) (n f s dl ks ee wd rh sl cp i la le : Int) (A : Option Addr) (c : Nat) (L : List Int) (t r p o e : Int) (z w : World) (hI : IsR z w h n f s dl ks ee wd rh sl cp i la le A L.length c) (hB : Below z.heap.size z w) (hp : carillonref16_Place.f 1 n f s dl ks ee wd rh sl cp t = some (r, i, o, 0)) (h1 : r ≤ la) : Calls Try.prog 18 #[.pointer (some ⟨h, 0, none⟩), .int .i64 t] w fun en w' => en = .returned (.tuple #[.int .i64 0, .int .i64 10]) ∧ IsR z w' h n f s dl ks ee wd rh sl cp i la le A L.length c ∧ Below z.heap.size z w' ∧ KeepBut w w' h none := by
  have c0 : w.cell? ⟨h, 0, none⟩ = some (.int .i64 n) := (blk_cell hI.1 0).trans rfl
  have c1 : w.cell? ⟨h, 1, none⟩ = some (.int .i64 f) := (blk_cell hI.1 1).trans rfl
  have c2 : w.cell? ⟨h, 2, none⟩ = some (.int .i64 s) := (blk_cell hI.1 2).trans rfl
  have c3 : w.cell? ⟨h, 3, none⟩ = some (.int .i64 dl) := (blk_cell hI.1 3).trans rfl
  have c4 : w.cell? ⟨h, 4, none⟩ = some (.int .i64 ks) := (blk_cell hI.1 4).trans rfl
  have c5 : w.cell? ⟨h, 5, none⟩ = some (.int .i64 ee) := (blk_cell hI.1 5).trans rfl
  have c6 : w.cell? ⟨h, 6, none⟩ = some (.int .i64 wd) := (blk_cell hI.1 6).trans rfl
  have c7 : w.cell? ⟨h, 7, none⟩ = some (.int .i64 rh) := (blk_cell hI.1 7).trans rfl
  have c8 : w.cell? ⟨h, 8, none⟩ = some (.int .i64 sl) := (blk_cell hI.1 8).trans rfl
  have c9 : w.cell? ⟨h, 9, none⟩ = some (.int .i64 cp) := (blk_cell hI.1 9).trans rfl
  have hgs : h < w.heap.size := blk_lt hI.1
  have HI := Aside0.mk hI
  have HB := Aside0.mk hB
  have HP := Aside0.mk hp
  have hd : decide (r ≤ la) = true := decide_eq_true h1
  clear hI hB hp
  go_enter Try.func18, Try.ntmps18
  go_wp2_with (first | (go_at_call 52; go_loud (refine (carillonref16_Place.calls 1 n f s dl ks ee wd rh sl cp t r i o 0 _ HP.out).mono ?_; rintro en w2 ⟨rfl, hb⟩; have I2 : Aside0 (IsR z w2 h n f s dl ks ee wd rh sl cp i la le A L.length c) := ⟨blk_below HI.out.1 hb, HI.out.2⟩; have B2 := Aside0.mk (below_step HB.out hb); have K2 := Aside0.mk (KeepBut.of_below hb h none); have hs2 : h < w2.heap.size := Nat.lt_of_lt_of_le hgs hb.size; have k0 : w2.cell? ⟨h, 0, none⟩ = some (.int .i64 n) := (blk_cell I2.out.1 0).trans rfl; have k10 : w2.cell? ⟨h, 10, none⟩ = some (.int .i64 i) := (blk_cell I2.out.1 10).trans rfl; have k11 : w2.cell? ⟨h, 11, none⟩ = some (.int .i64 la) := (blk_cell I2.out.1 11).trans rfl; have k12 : w2.cell? ⟨h, 12, none⟩ = some (.int .i64 le) := (blk_cell I2.out.1 12).trans rfl; have k13 : w2.cell? ⟨h, 13, none⟩ = some (.slice A L.length c) := (blk_cell I2.out.1 13).trans rfl; have fz11 : w2.frozen? ⟨h, 11, none⟩ = false := blk_frozen I2.out.1 11; have fz13 : w2.frozen? ⟨h, 13, none⟩ = false := blk_frozen I2.out.1 13; clear hb)))
  go_quiet (fail)
  go_wp2
  go_quiet (fail)
  go_wp2
  go_ret2
  exact ⟨rfl, by repeat (first | exact I2.out | (with_reducible apply IsR.drewN) | (with_reducible apply IsR.drew) | (with_reducible apply IsR.alloc) | (with_reducible apply IsR.set_11)), by repeat (first | exact B2.out | (with_reducible apply pw_below_drewN) | (with_reducible apply below_drew1) | (with_reducible refine below_alloc ?_ _) | (refine Below.setCell (p := ⟨h, 11, none⟩) ?_ I2.out.2 _)), by repeat (first | exact K2.out | (with_reducible refine keep_drewN ?_ _) | (with_reducible refine keep_drew ?_) | (with_reducible refine keep_alloc ?_ _) | (with_reducible refine KeepBut.set_ ?_ _ _))⟩
set_option maxRecDepth 100000 in
set_option maxHeartbeats 4000000 in
theorem rdata_old2 (h : Nat) (n f s dl ks ee wd rh sl cp i la le : Int) (A : Option Addr) (c : Nat) (L : List Int) (t r p o e : Int) (z w : World) (hI : IsR z w h n f s dl ks ee wd rh sl cp i la le A L.length c) (hB : Below z.heap.size z w) (hp : carillonref16_Place.f 1 n f s dl ks ee wd rh sl cp t = some (r, i, o, 0)) (h1 : la < r) (h2 : r < le) : Calls Try.prog 18 #[.pointer (some ⟨h, 0, none⟩), .int .i64 t] w fun en w' => en = .returned (.tuple #[.int .i64 0, .int .i64 10]) ∧ IsR z w' h n f s dl ks ee wd rh sl cp i la le A L.length c ∧ Below z.heap.size z w' ∧ KeepBut w w' h none := by
  have c0 : w.cell? ⟨h, 0, none⟩ = some (.int .i64 n) := (blk_cell hI.1 0).trans rfl
  have c1 : w.cell? ⟨h, 1, none⟩ = some (.int .i64 f) := (blk_cell hI.1 1).trans rfl
  have c2 : w.cell? ⟨h, 2, none⟩ = some (.int .i64 s) := (blk_cell hI.1 2).trans rfl
  have c3 : w.cell? ⟨h, 3, none⟩ = some (.int .i64 dl) := (blk_cell hI.1 3).trans rfl
  have c4 : w.cell? ⟨h, 4, none⟩ = some (.int .i64 ks) := (blk_cell hI.1 4).trans rfl
  have c5 : w.cell? ⟨h, 5, none⟩ = some (.int .i64 ee) := (blk_cell hI.1 5).trans rfl
  have c6 : w.cell? ⟨h, 6, none⟩ = some (.int .i64 wd) := (blk_cell hI.1 6).trans rfl
  have c7 : w.cell? ⟨h, 7, none⟩ = some (.int .i64 rh) := (blk_cell hI.1 7).trans rfl
  have c8 : w.cell? ⟨h, 8, none⟩ = some (.int .i64 sl) := (blk_cell hI.1 8).trans rfl
  have c9 : w.cell? ⟨h, 9, none⟩ = some (.int .i64 cp) := (blk_cell hI.1 9).trans rfl
  have hgs : h < w.heap.size := blk_lt hI.1
  have HI := Aside0.mk hI
  have HB := Aside0.mk hB
  have HP := Aside0.mk hp
  have hd : decide (r ≤ la) = false := decide_eq_false (by omega)
  have hd2 : decide (r < le) = true := decide_eq_true h2
  clear hI hB hp
  go_enter Try.func18, Try.ntmps18
  go_wp2_with (first | (go_at_call 52; go_loud (refine (carillonref16_Place.calls 1 n f s dl ks ee wd rh sl cp t r i o 0 _ HP.out).mono ?_; rintro en w2 ⟨rfl, hb⟩; have I2 : Aside0 (IsR z w2 h n f s dl ks ee wd rh sl cp i la le A L.length c) := ⟨blk_below HI.out.1 hb, HI.out.2⟩; have B2 := Aside0.mk (below_step HB.out hb); have K2 := Aside0.mk (KeepBut.of_below hb h none); have hs2 : h < w2.heap.size := Nat.lt_of_lt_of_le hgs hb.size; have k0 : w2.cell? ⟨h, 0, none⟩ = some (.int .i64 n) := (blk_cell I2.out.1 0).trans rfl; have k10 : w2.cell? ⟨h, 10, none⟩ = some (.int .i64 i) := (blk_cell I2.out.1 10).trans rfl; have k11 : w2.cell? ⟨h, 11, none⟩ = some (.int .i64 la) := (blk_cell I2.out.1 11).trans rfl; have k12 : w2.cell? ⟨h, 12, none⟩ = some (.int .i64 le) := (blk_cell I2.out.1 12).trans rfl; have k13 : w2.cell? ⟨h, 13, none⟩ = some (.slice A L.length c) := (blk_cell I2.out.1 13).trans rfl; have fz11 : w2.frozen? ⟨h, 11, none⟩ = false := blk_frozen I2.out.1 11; have fz13 : w2.frozen? ⟨h, 13, none⟩ = false := blk_frozen I2.out.1 13; clear hb)))
  go_quiet (fail)
  go_wp2
  go_quiet (fail)
  go_wp2
  go_ret2
  exact ⟨rfl, by repeat (first | exact I2.out | (with_reducible apply IsR.drewN) | (with_reducible apply IsR.drew) | (with_reducible apply IsR.alloc) | (with_reducible apply IsR.set_11)), by repeat (first | exact B2.out | (with_reducible apply pw_below_drewN) | (with_reducible apply below_drew1) | (with_reducible refine below_alloc ?_ _) | (refine Below.setCell (p := ⟨h, 11, none⟩) ?_ I2.out.2 _)), by repeat (first | exact K2.out | (with_reducible refine keep_drewN ?_ _) | (with_reducible refine keep_drew ?_) | (with_reducible refine keep_alloc ?_ _) | (with_reducible refine KeepBut.set_ ?_ _ _))⟩
set_option maxRecDepth 100000 in
set_option maxHeartbeats 4000000 in
theorem rdata_ok (h : Nat) (n f s dl ks ee wd rh sl cp i la le : Int) (A : Option Addr) (c : Nat) (L : List Int) (t r p o e : Int) (z w : World) (hI : IsR z w h n f s dl ks ee wd rh sl cp i la le A L.length c) (hB : Below z.heap.size z w) (hp : carillonref16_Place.f 1 n f s dl ks ee wd rh sl cp t = some (r, i, o, 0)) (h1 : la < r) (h2 : le ≤ r) : Calls Try.prog 18 #[.pointer (some ⟨h, 0, none⟩), .int .i64 t] w fun en w' => en = .returned (.tuple #[.int .i64 r, .int .i64 0]) ∧ IsR z w' h n f s dl ks ee wd rh sl cp i r le A L.length c ∧ Below z.heap.size z w' ∧ KeepBut w w' h none := by
  have c0 : w.cell? ⟨h, 0, none⟩ = some (.int .i64 n) := (blk_cell hI.1 0).trans rfl
  have c1 : w.cell? ⟨h, 1, none⟩ = some (.int .i64 f) := (blk_cell hI.1 1).trans rfl
  have c2 : w.cell? ⟨h, 2, none⟩ = some (.int .i64 s) := (blk_cell hI.1 2).trans rfl
  have c3 : w.cell? ⟨h, 3, none⟩ = some (.int .i64 dl) := (blk_cell hI.1 3).trans rfl
  have c4 : w.cell? ⟨h, 4, none⟩ = some (.int .i64 ks) := (blk_cell hI.1 4).trans rfl
  have c5 : w.cell? ⟨h, 5, none⟩ = some (.int .i64 ee) := (blk_cell hI.1 5).trans rfl
  have c6 : w.cell? ⟨h, 6, none⟩ = some (.int .i64 wd) := (blk_cell hI.1 6).trans rfl
  have c7 : w.cell? ⟨h, 7, none⟩ = some (.int .i64 rh) := (blk_cell hI.1 7).trans rfl
  have c8 : w.cell? ⟨h, 8, none⟩ = some (.int .i64 sl) := (blk_cell hI.1 8).trans rfl
  have c9 : w.cell? ⟨h, 9, none⟩ = some (.int .i64 cp) := (blk_cell hI.1 9).trans rfl
  have hgs : h < w.heap.size := blk_lt hI.1
  have HI := Aside0.mk hI
  have HB := Aside0.mk hB
  have HP := Aside0.mk hp
  have hd : decide (r ≤ la) = false := decide_eq_false (by omega)
  have hd2 : decide (r < le) = false := decide_eq_false (by omega)
  clear hI hB hp
  go_enter Try.func18, Try.ntmps18
  go_wp2_with (first | (go_at_call 52; go_loud (refine (carillonref16_Place.calls 1 n f s dl ks ee wd rh sl cp t r i o 0 _ HP.out).mono ?_; rintro en w2 ⟨rfl, hb⟩; have I2 : Aside0 (IsR z w2 h n f s dl ks ee wd rh sl cp i la le A L.length c) := ⟨blk_below HI.out.1 hb, HI.out.2⟩; have B2 := Aside0.mk (below_step HB.out hb); have K2 := Aside0.mk (KeepBut.of_below hb h none); have hs2 : h < w2.heap.size := Nat.lt_of_lt_of_le hgs hb.size; have k0 : w2.cell? ⟨h, 0, none⟩ = some (.int .i64 n) := (blk_cell I2.out.1 0).trans rfl; have k10 : w2.cell? ⟨h, 10, none⟩ = some (.int .i64 i) := (blk_cell I2.out.1 10).trans rfl; have k11 : w2.cell? ⟨h, 11, none⟩ = some (.int .i64 la) := (blk_cell I2.out.1 11).trans rfl; have k12 : w2.cell? ⟨h, 12, none⟩ = some (.int .i64 le) := (blk_cell I2.out.1 12).trans rfl; have k13 : w2.cell? ⟨h, 13, none⟩ = some (.slice A L.length c) := (blk_cell I2.out.1 13).trans rfl; have fz11 : w2.frozen? ⟨h, 11, none⟩ = false := blk_frozen I2.out.1 11; have fz13 : w2.frozen? ⟨h, 13, none⟩ = false := blk_frozen I2.out.1 13; clear hb)))
  go_quiet (fail)
  go_wp2
  go_quiet (fail)
  go_wp2
  go_ret2
  exact ⟨rfl, by repeat (first | exact I2.out | (with_reducible apply IsR.drewN) | (with_reducible apply IsR.drew) | (with_reducible apply IsR.alloc) | (with_reducible apply IsR.set_11)), by repeat (first | exact B2.out | (with_reducible apply pw_below_drewN) | (with_reducible apply below_drew1) | (with_reducible refine below_alloc ?_ _) | (refine Below.setCell (p := ⟨h, 11, none⟩) ?_ I2.out.2 _)), by repeat (first | exact K2.out | (with_reducible refine keep_drewN ?_ _) | (with_reducible refine keep_drew ?_) | (with_reducible refine keep_alloc ?_ _) | (with_reducible refine KeepBut.set_ ?_ _ _))⟩
theorem rdata_any (h : Nat) (n f s dl ks ee wd rh sl cp i la le : Int) (A : Option Addr) (c : Nat) (L : List Int) (t r p o e : Int) (z w : World) (hI : IsR z w h n f s dl ks ee wd rh sl cp i la le A L.length c) (hB : Below z.heap.size z w) (hp : carillonref16_Place.f 1 n f s dl ks ee wd rh sl cp t = some (r, p, o, e)) (h01 : e = 0 ∨ e = 1) (x y z1 : Int) (hd : dataF i la le r p e = (x, y, z1)) : Calls Try.prog 18 #[.pointer (some ⟨h, 0, none⟩), .int .i64 t] w fun en w' => en = .returned (.tuple #[.int .i64 x, .int .i64 y]) ∧ IsR z w' h n f s dl ks ee wd rh sl cp i z1 le A L.length c ∧ Below z.heap.size z w' ∧ KeepBut w w' h none := by
  unfold dataF at hd
  rcases h01 with rfl | rfl
  · rw [if_neg (by omega)] at hd
    by_cases h1 : p = i
    · subst h1
      rw [if_neg (by omega)] at hd
      by_cases h2 : r ≤ la
      · rw [if_pos (Or.inl h2)] at hd
        cases hd
        exact rdata_old1 h n f s dl ks ee wd rh sl cp p la le A c L t r p o 0 z w hI hB hp h2
      · by_cases h3 : r < le
        · rw [if_pos (Or.inr h3)] at hd
          cases hd
          exact rdata_old2 h n f s dl ks ee wd rh sl cp p la le A c L t r p o 0 z w hI hB hp (by omega) h3
        · rw [if_neg (by omega)] at hd
          cases hd
          exact rdata_ok h n f s dl ks ee wd rh sl cp p la le A c L t r p o 0 z w hI hB hp (by omega) (by omega)
    · rw [if_pos h1] at hd
      cases hd
      exact rdata_slot h n f s dl ks ee wd rh sl cp i la le A c L t r p o 0 z w hI hB hp h1
  · rw [if_pos (by omega)] at hd
    cases hd
    exact rdata_e h n f s dl ks ee wd rh sl cp i la le A c L t r p o 1 z w hI hB hp (by omega)
set_option maxRecDepth 100000 in
set_option maxHeartbeats 4000000 in
theorem rforget_ok (h : Nat) (n f s dl ks ee wd rh sl cp i la le : Int) (A : Option Addr) (c : Nat) (L : List Int) (m : Int) (z w : World) (hI : IsR z w h n f s dl ks ee wd rh sl cp i la le A L.length c) (hB : Below z.heap.size z w) : Calls Try.prog 21 #[.pointer (some ⟨h, 0, none⟩), .int .i64 m] w fun en w' => en = .returned (.tuple #[]) ∧ IsR z w' h n f s dl ks ee wd rh sl cp i (-1) (if m < 0 then 0 else m) A L.length c ∧ Below z.heap.size z w' ∧ KeepBut w w' h none := by
  have c11 : w.cell? ⟨h, 11, none⟩ = some (.int .i64 la) := (blk_cell hI.1 11).trans rfl
  have c12 : w.cell? ⟨h, 12, none⟩ = some (.int .i64 le) := (blk_cell hI.1 12).trans rfl
  have f11 : w.frozen? ⟨h, 11, none⟩ = false := blk_frozen hI.1 11
  have f12 : w.frozen? ⟨h, 12, none⟩ = false := blk_frozen hI.1 12
  have HI := Aside0.mk hI
  have HB := Aside0.mk hB
  clear hI hB
  by_cases hm : m < 0
  · rw [if_pos hm]
    go_enter Try.func21, Try.ntmps21
    go_wp2
    go_end0
    exact ⟨rfl, IsR.set_12 (IsR.set_11 HI.out _) _, (HB.out.setCell HI.out.2 _).setCell HI.out.2 _, ((KeepBut.refl _ _ _).set_ _ _).set_ _ _⟩
  · rw [if_neg hm]
    have hm2 : 0 ≤ m := by omega
    clear hm
    go_enter Try.func21, Try.ntmps21
    go_wp2
    go_end0
    exact ⟨rfl, IsR.set_12 (IsR.set_11 HI.out _) _, (HB.out.setCell HI.out.2 _).setCell HI.out.2 _, ((KeepBut.refl _ _ _).set_ _ _).set_ _ _⟩
set_option maxRecDepth 100000 in
set_option maxHeartbeats 4000000 in
theorem forget_ok (g bm : Nat) (n f s dl ks ee wd rh sl cp i la le : Int) (m : Int) (z w : World) (hI : IsG z w g bm n f s dl ks ee wd rh sl cp i la le) (hB : Below z.heap.size z w) : Calls Try.prog 20 #[.pointer (some ⟨g, 0, none⟩), .int .i64 m] w fun en w' => en = .returned (.tuple #[]) ∧ IsG z w' g bm n f s dl ks ee wd rh sl cp i (-1) (if m < 0 then 0 else m) ∧ Below z.heap.size z w' ∧ KeepBut w w' g none := by
  have c11 : w.cell? ⟨g, 11, none⟩ = some (.int .i64 la) := (blk_cell hI.1 11).trans rfl
  have c12 : w.cell? ⟨g, 12, none⟩ = some (.int .i64 le) := (blk_cell hI.1 12).trans rfl
  have f11 : w.frozen? ⟨g, 11, none⟩ = false := blk_frozen hI.1 11
  have f12 : w.frozen? ⟨g, 12, none⟩ = false := blk_frozen hI.1 12
  have HI := Aside0.mk hI
  have HB := Aside0.mk hB
  clear hI hB
  by_cases hm : m < 0
  · rw [if_pos hm]
    go_enter Try.func20, Try.ntmps20
    go_wp2_with (first | (go_at_call 48; go_loud (refine (none_ok g bm n f s dl ks ee wd rh sl cp i la le z w HI.out).mono ?_; rintro en w1 ⟨rfl, e1⟩; rw [e1]; clear e1)))
    go_end0
    exact ⟨rfl, IsG.set_12 (IsG.set_11 HI.out _) _, (HB.out.setCell HI.out.2 _).setCell HI.out.2 _, ((KeepBut.refl _ _ _).set_ _ _).set_ _ _⟩
  · rw [if_neg hm]
    have hm2 : 0 ≤ m := by omega
    clear hm
    go_enter Try.func20, Try.ntmps20
    go_wp2_with (first | (go_at_call 48; go_loud (refine (none_ok g bm n f s dl ks ee wd rh sl cp i la le z w HI.out).mono ?_; rintro en w1 ⟨rfl, e1⟩; rw [e1]; clear e1)))
    go_end0
    exact ⟨rfl, IsG.set_12 (IsG.set_11 HI.out _) _, (HB.out.setCell HI.out.2 _).setCell HI.out.2 _, ((KeepBut.refl _ _ _).set_ _ _).set_ _ _⟩
end Go.Proofs.Ytfaikkhnlioajaa.Gd6
