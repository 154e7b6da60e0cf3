/- Not too many. -/
import Derived.Test.YtfaikkhnlioajaaProg
import Derived.Below
import Derived.Deep.Draws
import Derived.Deep.AppendLies
import Derived.Maps.AppendAt
import Derived.OwnWalk
import Derived.Laws.BytesArg
import Derived.Laws.MakeOwn
import Derived.Laws.OwnMore
import Derived.Deep.OwnRows
import Derived.Tactics
import Derived.Lib.ConvBytes
import Derived.Laws.Slices
import Derived.WalkKit
import Derived.KernelRfl
import Derived.RowKit3
import Derived.Deep.LoopGhost
import Derived.Deep.QuietTactic
import Derived.BigQuiet
import Derived.WideLaws
import Derived.Deep.DeepCutAuto
import Derived.Deep.CutBlock
import Derived.Deep.RegionHeld3
import Derived.Laws.Rows
import Derived.Lib.AppendStr
import Derived.ArgAppend
import Derived.Laws.IdiomCopy
import Derived.OrdersHeld
import Derived.Laws.BitsLemmas
import Derived.RowKit
import Derived.RegionTactic
import Derived.ChangeAlike
import Derived.Outline
import Derived.LoopTactic
import Derived.WalkSpells
import Derived.WalkLawsBesides
import Derived.Lib.Hide
import Derived.StillTailTactics
import Derived.Deep.RegionWith
import Derived.Deep.RegionLaw
import Derived.Deep.DeepFit
import Derived.Deep.DeepMust
import Derived.Test.YtfaikkhnlioajaaWWords
import Derived.Test.YtfaikkhnlioajaaWLast
import Derived.Test.YtfaikkhnlioajaaWTab
import Derived.Test.YtfaikkhnlioajaaWFour
import Derived.Test.YtfaikkhnlioajaaWQPut
import Derived.Test.YtfaikkhnlioajaaWApart
import Derived.Test.YtfaikkhnlioajaaWArr
import Derived.Test.YtfaikkhnlioajaaWZeros
import Derived.Test.YtfaikkhnlioajaaWFoot
import Derived.Test.YtfaikkhnlioajaaWKept
import Derived.Test.YtfaikkhnlioajaaWShare
import Derived.Test.YtfaikkhnlioajaaWN
import Derived.Test.YtfaikkhnlioajaaWFootNe
import Derived.Test.YtfaikkhnlioajaaWAt
import Derived.Test.YtfaikkhnlioajaaWEqStruct
import Derived.Test.YtfaikkhnlioajaaWRepsOne
import Derived.Test.YtfaikkhnlioajaaWInv
import Derived.Test.YtfaikkhnlioajaaWInvWords
import Derived.Test.YtfaikkhnlioajaaWGuard
import Derived.Test.YtfaikkhnlioajaaWNEv
import Derived.Test.YtfaikkhnlioajaaWMore
import Derived.Test.YtfaikkhnlioajaaGd4
namespace Go.Proofs.Ytfaikkhnlioajaa.Gd5
open Go.RowKit Go.Proofs.YtfaikkhnlioajaaW.PrintWords Go.Proofs.YtfaikkhnlioajaaW.PrintLast Go.Proofs.YtfaikkhnlioajaaW.PrintMore 
attribute [local go_sem] max2_int min2_int max_two min_two max_three min_three max_four min_four
set_option linter.unusedVariables false
set_option linter.unusedSimpArgs false
open Go.Proofs.Ytfaikkhnlioajaa.QBase Go.Proofs.Ytfaikkhnlioajaa.Sch Go.Proofs.Ytfaikkhnlioajaa.Plc Go.Proofs.Ytfaikkhnlioajaa.Gd1 Go.Proofs.Ytfaikkhnlioajaa.Gd2 Go.Proofs.Ytfaikkhnlioajaa.Gd3 Go.Proofs.Ytfaikkhnlioajaa.Gd4 Go.Maps
attribute [local go_sem] cellS1 frozenS1 cellS2 frozenS2 cellS3 frozenS3 cellS4 frozenS4
def otherR (n r e : Int) (M : Int → Int) : Int := if e ≠ 0 then e else if 4 * n ≤ M r then 9 else 0
def otherM (n r e : Int) (M : Int → Int) : Int → Int := if e ≠ 0 then M else if 4 * n ≤ M r then M else (fun x => if r - 64 ≤ x then (if x = r then M r + 1 else M x) else 0)
theorem otherM_nn (n r e : Int) (M : Int → Int) (h : ∀ x, 0 ≤ M x) (x : Int) : 0 ≤ otherM n r e M x := by
  unfold otherM
  split
  · exact h x
  · split
    · exact h x
    · show 0 ≤ (if r - 64 ≤ x then (if x = r then M r + 1 else M x) else 0)
      have := h r
      have := h x
      repeat' split <;> omega
theorem MapIs.mono {w : World} {bm k k' : Nat} {M : Int → Int} (h : MapIs w bm k M) (hk : k ≤ k') : MapIs w bm k' M := let ⟨D, h1, h2⟩ := h; ⟨D, h1.mono hk, h2⟩
theorem other_any (g bm k : Nat) (n f s dl ks ee wd rh sl cp i la le t r p o e : Int) (M : Int → Int) (z w : World) (hI : IsG z w g bm n f s dl ks ee wd rh sl cp i la le) (hB : Below z.heap.size z w) (hM : MapIs w bm k M) (hbm : z.heap.size ≤ bm) (hM0 : ∀ x, 0 ≤ M x) (hk : Ok n f s dl ks ee wd rh sl cp) (hp : sched_Place.f 3 n f s dl ks ee wd rh sl cp t = some (r, p, o, e)) (r0 : 0 ≤ r) (r1 : r ≤ 1048575) (hkk : k ≤ 100000) (x : Int) (M2 : Int → Int) (hx : otherR n r e M = x) (hM2 : otherM n r e M = M2) :
    Calls Try.prog 16 #[.pointer (some ⟨g, 0, none⟩), .int .i64 t] w fun en w' => en = .returned (.int .i64 x) ∧ MapIs w' bm (k + 1) M2 ∧ IsG z w' g bm n f s dl ks ee wd rh sl cp i la le ∧ Below z.heap.size z w' ∧ w.grownBy w' (some bm) := by
  have hne := hM.ne hI.1
  have fin : ∀ (k2 : Nat) (y : Int) (M3 : Int → Int), k2 ≤ k + 1 → (Calls Try.prog 16 #[.pointer (some ⟨g, 0, none⟩), .int .i64 t] w fun en w' => en = .returned (.int .i64 y) ∧ MapIs w' bm k2 M3 ∧ w.grownBy w' (some bm)) →
      Calls Try.prog 16 #[.pointer (some ⟨g, 0, none⟩), .int .i64 t] w fun en w' => en = .returned (.int .i64 y) ∧ MapIs w' bm (k + 1) M3 ∧ IsG z w' g bm n f s dl ks ee wd rh sl cp i la le ∧ Below z.heap.size z w' ∧ w.grownBy w' (some bm) :=
    fun k2 y M3 hk2 h => Calls.mono h fun en w' ⟨h1, h2, h3⟩ => ⟨h1, MapIs.mono h2 hk2, IsG.kept hI h3 hne, below_grown hB h3 hbm, h3⟩
  subst hx
  subst hM2
  by_cases he : e = 0
  · subst he
    by_cases hf : 4 * n ≤ M r
    · rw [show otherR n r 0 M = 9 by unfold otherR; rw [if_neg (by omega), if_pos hf], show otherM n r 0 M = M by unfold otherM; rw [if_neg (by omega), if_pos hf]]
      exact fin k _ _ (Nat.le_succ _) (other_full g bm k n f s dl ks ee wd rh sl cp i la le t r p o 0 M z w hI hB hM hbm hM0 hk hp r0 r1 hf)
    · rw [show otherR n r 0 M = 0 by unfold otherR; rw [if_neg (by omega), if_neg hf], show otherM n r 0 M = (fun x => if r - 64 ≤ x then (if x = r then M r + 1 else M x) else 0) by unfold otherM; rw [if_neg (by omega), if_neg hf]]
      exact fin (k + 1) _ _ (Nat.le_refl _) (other_ok g bm k n f s dl ks ee wd rh sl cp i la le t r p o 0 M z w hI hB hM hbm hM0 hk hp r0 r1 (by omega) hkk)
  · rw [show otherR n r e M = e by unfold otherR; rw [if_pos he], show otherM n r e M = M by unfold otherM; rw [if_pos he]]
    exact fin k _ _ (Nat.le_succ _) (other_e g bm k n f s dl ks ee wd rh sl cp i la le t r p o e M z w hI hB hM hbm hM0 hk hp r0 r1 he)
set_option maxRecDepth 100000 in
set_option maxHeartbeats 4000000 in
theorem few_bad (n f s dl ks ee wd rh sl cp i : Int) (t many : Int) (w : World) (h : ¬ (Ok n f s dl ks ee wd rh sl cp ∧ 0 ≤ i ∧ i < n)) : Calls Try.prog 4 #[.agg #[.int .i64 n, .int .i64 f, .int .i64 s, .int .i64 dl, .int .i64 ks, .int .i64 ee, .int .i64 wd, .int .i64 rh, .int .i64 sl, .int .i64 cp], .int .i64 i, .int .i64 t, .int .u8 many] w fun en w' => en = .returned (.bool true) ∧ Below w.heap.size w w' := by
  have HN := Aside0.mk h
  clear h
  go_enter Try.func4, Try.ntmps4
  go_wp2_with (first | (go_at_call 11; go_loud (refine (new_not n f s dl ks ee wd rh sl cp i _ HN.out).mono ?_; rintro en w1 ⟨rfl, hb1⟩; have HB1 := Aside0.mk (below_step (below_alloc (Below.refl _ _) (.cells #[.int .i64 n, .int .i64 f, .int .i64 s, .int .i64 dl, .int .i64 ks, .int .i64 ee, .int .i64 wd, .int .i64 rh, .int .i64 sl, .int .i64 cp] 23 (0, 0))) hb1); clear hb1)) | (go_at_call 12; go_loud (refine (awake_ok _).mono ?_; rintro en w2 ⟨rfl, hb2⟩; have HB2 := Aside0.mk (below_step HB1.out hb2); clear hb2)))
  go_ret
  exact ⟨rfl, HB2.out⟩
set_option maxRecDepth 100000 in
set_option maxHeartbeats 16000000 in
theorem few_e (n f s dl ks ee wd rh sl cp i t many r p o e : Int) (w : World) (hk : Ok n f s dl ks ee wd rh sl cp) (i0 : 0 ≤ i) (i1 : i < n) (y0 : 0 ≤ many) (y1 : many ≤ 255) (hp : sched_Place.f 3 n f s dl ks ee wd rh sl cp t = some (r, p, o, e)) (r0 : 0 ≤ r) (r1 : r ≤ 1048575) (he : e ≠ 0) : Calls Try.prog 4 #[.agg #[.int .i64 n, .int .i64 f, .int .i64 s, .int .i64 dl, .int .i64 ks, .int .i64 ee, .int .i64 wd, .int .i64 rh, .int .i64 sl, .int .i64 cp], .int .i64 i, .int .i64 t, .int .u8 many] w fun en w' => en = .returned (.bool true) ∧ Below w.heap.size w w' := by
  obtain ⟨n0, n1, f0, f1⟩ := ok_n hk
  have HK := Aside0.mk hk
  have HP := Aside0.mk hp
  clear hk hp
  go_enter Try.func4, Try.ntmps4
  go_wp2_with (first | (go_at_call 11; go_loud (refine (new_yes n f s dl ks ee wd rh sl cp i _ HK.out i0 i1).mono ?_; rintro en w1 ⟨g, bm, rfl, a1, a2, a3, a4⟩; have I1 := Aside0.mk a1; have M1 := Aside0.mk a2; have M2 := Aside0.mk a3; have B1 := Aside0.mk a4; clear a1 a2 a3 a4)))
  have hbm : (w.alloc (.cells #[.int .i64 n, .int .i64 f, .int .i64 s, .int .i64 dl, .int .i64 ks, .int .i64 ee, .int .i64 wd, .int .i64 rh, .int .i64 sl, .int .i64 cp] 23 (0, 0))).heap.size ≤ bm := M2.out
  have c10 := blk_below (blk_new w (.cells #[.int .i64 n, .int .i64 f, .int .i64 s, .int .i64 dl, .int .i64 ks, .int .i64 ee, .int .i64 wd, .int .i64 rh, .int .i64 sl, .int .i64 cp] 23 (0, 0))) B1.out
  have C10 := Aside0.mk c10
  clear c10
  go_loopw [11, 12] (fun vc v wr => ∃ (kk cnt : Int) (M : Int → Int), vc = .int .i64 cnt ∧ v = .int .i64 kk ∧ 0 ≤ kk ∧ kk ≤ many ∧ 0 ≤ cnt ∧ cnt ≤ 255 ∧ cnt = 0 ∧ Aside0 (∀ x, 0 ≤ M x) ∧ Aside0 (MapIs wr bm kk.toNat M) ∧ Aside0 (IsG (w.alloc (.cells #[.int .i64 n, .int .i64 f, .int .i64 s, .int .i64 dl, .int .i64 ks, .int .i64 ee, .int .i64 wd, .int .i64 rh, .int .i64 sl, .int .i64 cp] 23 (0, 0))) wr g bm n f s dl ks ee wd rh sl cp i (-1) 0) ∧ Aside0 (Below (w.alloc (.cells #[.int .i64 n, .int .i64 f, .int .i64 s, .int .i64 dl, .int .i64 ks, .int .i64 ee, .int .i64 wd, .int .i64 rh, .int .i64 sl, .int .i64 cp] 23 (0, 0))).heap.size (w.alloc (.cells #[.int .i64 n, .int .i64 f, .int .i64 s, .int .i64 dl, .int .i64 ks, .int .i64 ee, .int .i64 wd, .int .i64 rh, .int .i64 sl, .int .i64 cp] 23 (0, 0))) wr)) (fun _ v _ => (many - intOf v).toNat)
  case atStart => exact ⟨0, 0, fun _ => 0, rfl, rfl, by omega, y0, by omega, by omega, by first | trivial | exact ⟨rfl, by omega, by omega, Or.inl rfl⟩, ⟨fun _ => Int.le_refl _⟩, ⟨MapIs.made M1.out⟩, ⟨I1.out.1, I1.out.2⟩, B1⟩
  case round =>
    obtain ⟨kk, cnt, M, rfl, rfl, k0, k1, u0, u1, HREL, HM0, M5, I5, B5⟩ := hrel
    clear I1 B1 M1 C10
    by_cases c5 : kk < many
    · subst HREL
      have HR := Aside0.mk (show otherR n r e M = e by unfold otherR; rw [if_pos he])
      obtain ⟨M2, hM2⟩ : ∃ M2, otherM n r e M = M2 := ⟨_, rfl⟩
      have HM2 := Aside0.mk hM2
      have HN2 := Aside0.mk (fun x => hM2 ▸ otherM_nn n r e M HM0.out x)
      have heb : (e == 0) = false := beq_eq_false_iff_ne.2 he
      clear hM2
      go_wp2_with (first | (go_at_call 16; go_loud (refine (other_any g bm kk.toNat n f s dl ks ee wd rh sl cp i (-1) 0 t r p o e M _ _ I5.out B5.out M5.out hbm HM0.out HK.out HP.out r0 r1 (by omega) _ _ HR.out HM2.out).mono ?_; rintro en w6 ⟨rfl, a1, a2, a3, a4⟩; have cc := blk_below (blk_new w (.cells #[.int .i64 n, .int .i64 f, .int .i64 s, .int .i64 dl, .int .i64 ks, .int .i64 ee, .int .i64 wd, .int .i64 rh, .int .i64 sl, .int .i64 cp] 23 (0, 0))) a3; have c0 : w6.cell? ⟨w.heap.size, 0, none⟩ = some (.int .i64 n) := (blk_cell cc 0).trans rfl; have c1 : w6.cell? ⟨w.heap.size, 1, none⟩ = some (.int .i64 f) := (blk_cell cc 1).trans rfl; have c2 : w6.cell? ⟨w.heap.size, 2, none⟩ = some (.int .i64 s) := (blk_cell cc 2).trans rfl; have c3 : w6.cell? ⟨w.heap.size, 3, none⟩ = some (.int .i64 dl) := (blk_cell cc 3).trans rfl; have c4 : w6.cell? ⟨w.heap.size, 4, none⟩ = some (.int .i64 ks) := (blk_cell cc 4).trans rfl; have c5 : w6.cell? ⟨w.heap.size, 5, none⟩ = some (.int .i64 ee) := (blk_cell cc 5).trans rfl; have c6 : w6.cell? ⟨w.heap.size, 6, none⟩ = some (.int .i64 wd) := (blk_cell cc 6).trans rfl; have c7 : w6.cell? ⟨w.heap.size, 7, none⟩ = some (.int .i64 rh) := (blk_cell cc 7).trans rfl; have c8 : w6.cell? ⟨w.heap.size, 8, none⟩ = some (.int .i64 sl) := (blk_cell cc 8).trans rfl; have c9 : w6.cell? ⟨w.heap.size, 9, none⟩ = some (.int .i64 cp) := (blk_cell cc 9).trans rfl; clear cc; have M6 := Aside0.mk a1; have I6 := Aside0.mk a2; have B6 := Aside0.mk a3; clear a1 a2 a3 a4)))
      go_roundw
      case rel => exact ⟨kk + 1, 0, M2, rfl, by go_num, by omega, by omega, by omega, by omega, rfl, HN2, ⟨by rw [show (kk + 1).toNat = kk.toNat + 1 by omega]; exact M6.out⟩, I6, B6⟩
      case measure => simp [intOf]; omega
    · have ca := blk_below (blk_new w (.cells #[.int .i64 n, .int .i64 f, .int .i64 s, .int .i64 dl, .int .i64 ks, .int .i64 ee, .int .i64 wd, .int .i64 rh, .int .i64 sl, .int .i64 cp] 23 (0, 0))) B5.out
      have c0 : wr.cell? ⟨w.heap.size, 0, none⟩ = some (.int .i64 n) := (blk_cell ca 0).trans rfl
      have c1 : wr.cell? ⟨w.heap.size, 1, none⟩ = some (.int .i64 f) := (blk_cell ca 1).trans rfl
      have c2 : wr.cell? ⟨w.heap.size, 2, none⟩ = some (.int .i64 s) := (blk_cell ca 2).trans rfl
      have c3 : wr.cell? ⟨w.heap.size, 3, none⟩ = some (.int .i64 dl) := (blk_cell ca 3).trans rfl
      have c4 : wr.cell? ⟨w.heap.size, 4, none⟩ = some (.int .i64 ks) := (blk_cell ca 4).trans rfl
      have c5 : wr.cell? ⟨w.heap.size, 5, none⟩ = some (.int .i64 ee) := (blk_cell ca 5).trans rfl
      have c6 : wr.cell? ⟨w.heap.size, 6, none⟩ = some (.int .i64 wd) := (blk_cell ca 6).trans rfl
      have c7 : wr.cell? ⟨w.heap.size, 7, none⟩ = some (.int .i64 rh) := (blk_cell ca 7).trans rfl
      have c8 : wr.cell? ⟨w.heap.size, 8, none⟩ = some (.int .i64 sl) := (blk_cell ca 8).trans rfl
      have c9 : wr.cell? ⟨w.heap.size, 9, none⟩ = some (.int .i64 cp) := (blk_cell ca 9).trans rfl
      clear ca
      obtain rfl : many = kk := by omega
      have heb : (e != 0) = true := by simp [he]
      subst HREL
      go_wp2_with (first | (go_at_call 14; go_loud (refine (sched_Place.calls 3 n f s dl ks ee wd rh sl cp t r p o e _ HP.out).mono ?_; rintro en w7 ⟨rfl, hb⟩; have cc := blk_below (blk_new w (.cells #[.int .i64 n, .int .i64 f, .int .i64 s, .int .i64 dl, .int .i64 ks, .int .i64 ee, .int .i64 wd, .int .i64 rh, .int .i64 sl, .int .i64 cp] 23 (0, 0))) (below_step B5.out hb); have d0 : w7.cell? ⟨w.heap.size, 0, none⟩ = some (.int .i64 n) := (blk_cell cc 0).trans rfl; have d1 : w7.cell? ⟨w.heap.size, 1, none⟩ = some (.int .i64 f) := (blk_cell cc 1).trans rfl; have d2 : w7.cell? ⟨w.heap.size, 2, none⟩ = some (.int .i64 s) := (blk_cell cc 2).trans rfl; have d3 : w7.cell? ⟨w.heap.size, 3, none⟩ = some (.int .i64 dl) := (blk_cell cc 3).trans rfl; have d4 : w7.cell? ⟨w.heap.size, 4, none⟩ = some (.int .i64 ks) := (blk_cell cc 4).trans rfl; have d5 : w7.cell? ⟨w.heap.size, 5, none⟩ = some (.int .i64 ee) := (blk_cell cc 5).trans rfl; have d6 : w7.cell? ⟨w.heap.size, 6, none⟩ = some (.int .i64 wd) := (blk_cell cc 6).trans rfl; have d7 : w7.cell? ⟨w.heap.size, 7, none⟩ = some (.int .i64 rh) := (blk_cell cc 7).trans rfl; have d8 : w7.cell? ⟨w.heap.size, 8, none⟩ = some (.int .i64 sl) := (blk_cell cc 8).trans rfl; have d9 : w7.cell? ⟨w.heap.size, 9, none⟩ = some (.int .i64 cp) := (blk_cell cc 9).trans rfl; clear cc; have B7 := Aside0.mk (below_step B5.out hb); clear hb)) | (go_at_call 12; go_loud (refine (awake_ok _).mono ?_; rintro en w8 ⟨rfl, hb2⟩; have HB2 := Aside0.mk (below_step (below_weaken (below_alloc (Below.refl _ _) (.cells #[.int .i64 n, .int .i64 f, .int .i64 s, .int .i64 dl, .int .i64 ks, .int .i64 ee, .int .i64 wd, .int .i64 rh, .int .i64 sl, .int .i64 cp] 23 (0, 0))) (by simp) (below_alloc B7.out _)) hb2); clear hb2)))
      go_ret
      exact ⟨rfl, HB2.out⟩
set_option maxRecDepth 100000 in
set_option maxHeartbeats 16000000 in
theorem few_ok (n f s dl ks ee wd rh sl cp i t many r p o e : Int) (w : World) (hk : Ok n f s dl ks ee wd rh sl cp) (i0 : 0 ≤ i) (i1 : i < n) (y0 : 0 ≤ many) (y1 : many ≤ 255) (hp : sched_Place.f 3 n f s dl ks ee wd rh sl cp t = some (r, p, o, 0)) (r0 : 0 ≤ r) (r1 : r ≤ 1048575)  : Calls Try.prog 4 #[.agg #[.int .i64 n, .int .i64 f, .int .i64 s, .int .i64 dl, .int .i64 ks, .int .i64 ee, .int .i64 wd, .int .i64 rh, .int .i64 sl, .int .i64 cp], .int .i64 i, .int .i64 t, .int .u8 many] w fun en w' => en = .returned (.bool true) ∧ Below w.heap.size w w' := by
  obtain ⟨n0, n1, f0, f1⟩ := ok_n hk
  have HK := Aside0.mk hk
  have HP := Aside0.mk hp
  clear hk hp
  go_enter Try.func4, Try.ntmps4
  go_wp2_with (first | (go_at_call 11; go_loud (refine (new_yes n f s dl ks ee wd rh sl cp i _ HK.out i0 i1).mono ?_; rintro en w1 ⟨g, bm, rfl, a1, a2, a3, a4⟩; have I1 := Aside0.mk a1; have M1 := Aside0.mk a2; have M2 := Aside0.mk a3; have B1 := Aside0.mk a4; clear a1 a2 a3 a4)))
  have hbm : (w.alloc (.cells #[.int .i64 n, .int .i64 f, .int .i64 s, .int .i64 dl, .int .i64 ks, .int .i64 ee, .int .i64 wd, .int .i64 rh, .int .i64 sl, .int .i64 cp] 23 (0, 0))).heap.size ≤ bm := M2.out
  have c10 := blk_below (blk_new w (.cells #[.int .i64 n, .int .i64 f, .int .i64 s, .int .i64 dl, .int .i64 ks, .int .i64 ee, .int .i64 wd, .int .i64 rh, .int .i64 sl, .int .i64 cp] 23 (0, 0))) B1.out
  have C10 := Aside0.mk c10
  clear c10
  go_loopw [11, 12] (fun vc v wr => ∃ (kk cnt : Int) (M : Int → Int), vc = .int .i64 cnt ∧ v = .int .i64 kk ∧ 0 ≤ kk ∧ kk ≤ many ∧ 0 ≤ cnt ∧ cnt ≤ 255 ∧ (M r = cnt ∧ cnt ≤ 4 * n ∧ cnt ≤ kk ∧ (cnt = kk ∨ cnt = 4 * n)) ∧ Aside0 (∀ x, 0 ≤ M x) ∧ Aside0 (MapIs wr bm kk.toNat M) ∧ Aside0 (IsG (w.alloc (.cells #[.int .i64 n, .int .i64 f, .int .i64 s, .int .i64 dl, .int .i64 ks, .int .i64 ee, .int .i64 wd, .int .i64 rh, .int .i64 sl, .int .i64 cp] 23 (0, 0))) wr g bm n f s dl ks ee wd rh sl cp i (-1) 0) ∧ Aside0 (Below (w.alloc (.cells #[.int .i64 n, .int .i64 f, .int .i64 s, .int .i64 dl, .int .i64 ks, .int .i64 ee, .int .i64 wd, .int .i64 rh, .int .i64 sl, .int .i64 cp] 23 (0, 0))).heap.size (w.alloc (.cells #[.int .i64 n, .int .i64 f, .int .i64 s, .int .i64 dl, .int .i64 ks, .int .i64 ee, .int .i64 wd, .int .i64 rh, .int .i64 sl, .int .i64 cp] 23 (0, 0))) wr)) (fun _ v _ => (many - intOf v).toNat)
  case atStart => exact ⟨0, 0, fun _ => 0, rfl, rfl, by omega, y0, by omega, by omega, by first | trivial | exact ⟨rfl, by omega, by omega, Or.inl rfl⟩, ⟨fun _ => Int.le_refl _⟩, ⟨MapIs.made M1.out⟩, ⟨I1.out.1, I1.out.2⟩, B1⟩
  case round =>
    obtain ⟨kk, cnt, M, rfl, rfl, k0, k1, u0, u1, HREL, HM0, M5, I5, B5⟩ := hrel
    clear I1 B1 M1 C10
    by_cases c5 : kk < many
    · obtain ⟨hm, hm1, hm2, hm3⟩ := HREL
      have v9 : many ≤ 255 := y1
      by_cases hf : cnt = 4 * n
      · have HR := Aside0.mk (show otherR n r 0 M = 9 by unfold otherR; rw [if_neg (by omega), if_pos (by omega)])
        have HM2 := Aside0.mk (show otherM n r 0 M = M by unfold otherM; rw [if_neg (by omega), if_pos (by omega)])
        clear hm3
        have HMR := Aside0.mk hm
        have HF := Aside0.mk hf
        clear hm hf
        go_wp2_with (first | (go_at_call 16; go_loud (refine (other_any g bm kk.toNat n f s dl ks ee wd rh sl cp i (-1) 0 t r p o 0 M _ _ I5.out B5.out M5.out hbm HM0.out HK.out HP.out r0 r1 (by omega) _ _ HR.out HM2.out).mono ?_; rintro en w6 ⟨rfl, a1, a2, a3, a4⟩; have cc := blk_below (blk_new w (.cells #[.int .i64 n, .int .i64 f, .int .i64 s, .int .i64 dl, .int .i64 ks, .int .i64 ee, .int .i64 wd, .int .i64 rh, .int .i64 sl, .int .i64 cp] 23 (0, 0))) a3; have c0 : w6.cell? ⟨w.heap.size, 0, none⟩ = some (.int .i64 n) := (blk_cell cc 0).trans rfl; have c1 : w6.cell? ⟨w.heap.size, 1, none⟩ = some (.int .i64 f) := (blk_cell cc 1).trans rfl; have c2 : w6.cell? ⟨w.heap.size, 2, none⟩ = some (.int .i64 s) := (blk_cell cc 2).trans rfl; have c3 : w6.cell? ⟨w.heap.size, 3, none⟩ = some (.int .i64 dl) := (blk_cell cc 3).trans rfl; have c4 : w6.cell? ⟨w.heap.size, 4, none⟩ = some (.int .i64 ks) := (blk_cell cc 4).trans rfl; have c5 : w6.cell? ⟨w.heap.size, 5, none⟩ = some (.int .i64 ee) := (blk_cell cc 5).trans rfl; have c6 : w6.cell? ⟨w.heap.size, 6, none⟩ = some (.int .i64 wd) := (blk_cell cc 6).trans rfl; have c7 : w6.cell? ⟨w.heap.size, 7, none⟩ = some (.int .i64 rh) := (blk_cell cc 7).trans rfl; have c8 : w6.cell? ⟨w.heap.size, 8, none⟩ = some (.int .i64 sl) := (blk_cell cc 8).trans rfl; have c9 : w6.cell? ⟨w.heap.size, 9, none⟩ = some (.int .i64 cp) := (blk_cell cc 9).trans rfl; clear cc; have M6 := Aside0.mk a1; have I6 := Aside0.mk a2; have B6 := Aside0.mk a3; clear a1 a2 a3 a4)))
        go_roundw
        case rel => exact ⟨kk + 1, cnt, M, rfl, by go_num, by omega, by omega, by omega, by omega, ⟨HMR.out, by omega, by omega, Or.inr HF.out⟩, HM0, ⟨by rw [show (kk + 1).toNat = kk.toNat + 1 by omega]; exact M6.out⟩, I6, B6⟩
        case measure => simp [intOf]; omega
      · have HR := Aside0.mk (show otherR n r 0 M = 0 by unfold otherR; rw [if_neg (by omega), if_neg (by omega)])
        obtain ⟨M2, hM2⟩ : ∃ M2, otherM n r 0 M = M2 := ⟨_, rfl⟩
        have HM2 := Aside0.mk hM2
        have HN2 := Aside0.mk (fun x => hM2 ▸ otherM_nn n r 0 M HM0.out x)
        have HMR := Aside0.mk (show M2 r = cnt + 1 by rw [← hM2]; unfold otherM; rw [if_neg (by omega), if_neg (by omega)]; show (if r - 64 ≤ r then (if r = r then M r + 1 else M r) else 0) = cnt + 1; rw [if_pos (by omega), if_pos rfl, hm])
        have hck : cnt = kk := by omega
        have HCK := Aside0.mk hck
        clear hM2 hm hm3 hck
        go_wp2_with (first | (go_at_call 16; go_loud (refine (other_any g bm kk.toNat n f s dl ks ee wd rh sl cp i (-1) 0 t r p o 0 M _ _ I5.out B5.out M5.out hbm HM0.out HK.out HP.out r0 r1 (by omega) _ _ HR.out HM2.out).mono ?_; rintro en w6 ⟨rfl, a1, a2, a3, a4⟩; have cc := blk_below (blk_new w (.cells #[.int .i64 n, .int .i64 f, .int .i64 s, .int .i64 dl, .int .i64 ks, .int .i64 ee, .int .i64 wd, .int .i64 rh, .int .i64 sl, .int .i64 cp] 23 (0, 0))) a3; have c0 : w6.cell? ⟨w.heap.size, 0, none⟩ = some (.int .i64 n) := (blk_cell cc 0).trans rfl; have c1 : w6.cell? ⟨w.heap.size, 1, none⟩ = some (.int .i64 f) := (blk_cell cc 1).trans rfl; have c2 : w6.cell? ⟨w.heap.size, 2, none⟩ = some (.int .i64 s) := (blk_cell cc 2).trans rfl; have c3 : w6.cell? ⟨w.heap.size, 3, none⟩ = some (.int .i64 dl) := (blk_cell cc 3).trans rfl; have c4 : w6.cell? ⟨w.heap.size, 4, none⟩ = some (.int .i64 ks) := (blk_cell cc 4).trans rfl; have c5 : w6.cell? ⟨w.heap.size, 5, none⟩ = some (.int .i64 ee) := (blk_cell cc 5).trans rfl; have c6 : w6.cell? ⟨w.heap.size, 6, none⟩ = some (.int .i64 wd) := (blk_cell cc 6).trans rfl; have c7 : w6.cell? ⟨w.heap.size, 7, none⟩ = some (.int .i64 rh) := (blk_cell cc 7).trans rfl; have c8 : w6.cell? ⟨w.heap.size, 8, none⟩ = some (.int .i64 sl) := (blk_cell cc 8).trans rfl; have c9 : w6.cell? ⟨w.heap.size, 9, none⟩ = some (.int .i64 cp) := (blk_cell cc 9).trans rfl; clear cc; have M6 := Aside0.mk a1; have I6 := Aside0.mk a2; have B6 := Aside0.mk a3; clear a1 a2 a3 a4)))
        go_roundw
        case rel => exact ⟨kk + 1, cnt + 1, M2, by go_num, by go_num, by omega, by omega, by omega, by omega, ⟨HMR.out, by omega, by omega, Or.inl (by rw [HCK.out])⟩, HN2, ⟨by rw [show (kk + 1).toNat = kk.toNat + 1 by omega]; exact M6.out⟩, I6, B6⟩
        case measure => simp [intOf]; omega
    · have ca := blk_below (blk_new w (.cells #[.int .i64 n, .int .i64 f, .int .i64 s, .int .i64 dl, .int .i64 ks, .int .i64 ee, .int .i64 wd, .int .i64 rh, .int .i64 sl, .int .i64 cp] 23 (0, 0))) B5.out
      have c0 : wr.cell? ⟨w.heap.size, 0, none⟩ = some (.int .i64 n) := (blk_cell ca 0).trans rfl
      have c1 : wr.cell? ⟨w.heap.size, 1, none⟩ = some (.int .i64 f) := (blk_cell ca 1).trans rfl
      have c2 : wr.cell? ⟨w.heap.size, 2, none⟩ = some (.int .i64 s) := (blk_cell ca 2).trans rfl
      have c3 : wr.cell? ⟨w.heap.size, 3, none⟩ = some (.int .i64 dl) := (blk_cell ca 3).trans rfl
      have c4 : wr.cell? ⟨w.heap.size, 4, none⟩ = some (.int .i64 ks) := (blk_cell ca 4).trans rfl
      have c5 : wr.cell? ⟨w.heap.size, 5, none⟩ = some (.int .i64 ee) := (blk_cell ca 5).trans rfl
      have c6 : wr.cell? ⟨w.heap.size, 6, none⟩ = some (.int .i64 wd) := (blk_cell ca 6).trans rfl
      have c7 : wr.cell? ⟨w.heap.size, 7, none⟩ = some (.int .i64 rh) := (blk_cell ca 7).trans rfl
      have c8 : wr.cell? ⟨w.heap.size, 8, none⟩ = some (.int .i64 sl) := (blk_cell ca 8).trans rfl
      have c9 : wr.cell? ⟨w.heap.size, 9, none⟩ = some (.int .i64 cp) := (blk_cell ca 9).trans rfl
      clear ca
      obtain rfl : many = kk := by omega
      obtain ⟨hm, hm1, hm2, hm3⟩ := HREL
      clear hm
      have hmin : cnt = (if 4 * n < many then 4 * n else many) := by split <;> omega
      have hmm : (cnt == (if 4 * n < many then 4 * n else many)) = true := by rw [← hmin]; simp
      clear hmin
      by_cases hlt : 4 * n < many
      all_goals
        have hce : cnt = 4 * n ∨ cnt = many := by omega
        go_wp2_with (first | (go_at_call 14; go_loud (refine (sched_Place.calls 3 n f s dl ks ee wd rh sl cp t r p o 0 _ HP.out).mono ?_; rintro en w7 ⟨rfl, hb⟩; have cc := blk_below (blk_new w (.cells #[.int .i64 n, .int .i64 f, .int .i64 s, .int .i64 dl, .int .i64 ks, .int .i64 ee, .int .i64 wd, .int .i64 rh, .int .i64 sl, .int .i64 cp] 23 (0, 0))) (below_step B5.out hb); have d0 : w7.cell? ⟨w.heap.size, 0, none⟩ = some (.int .i64 n) := (blk_cell cc 0).trans rfl; have d1 : w7.cell? ⟨w.heap.size, 1, none⟩ = some (.int .i64 f) := (blk_cell cc 1).trans rfl; have d2 : w7.cell? ⟨w.heap.size, 2, none⟩ = some (.int .i64 s) := (blk_cell cc 2).trans rfl; have d3 : w7.cell? ⟨w.heap.size, 3, none⟩ = some (.int .i64 dl) := (blk_cell cc 3).trans rfl; have d4 : w7.cell? ⟨w.heap.size, 4, none⟩ = some (.int .i64 ks) := (blk_cell cc 4).trans rfl; have d5 : w7.cell? ⟨w.heap.size, 5, none⟩ = some (.int .i64 ee) := (blk_cell cc 5).trans rfl; have d6 : w7.cell? ⟨w.heap.size, 6, none⟩ = some (.int .i64 wd) := (blk_cell cc 6).trans rfl; have d7 : w7.cell? ⟨w.heap.size, 7, none⟩ = some (.int .i64 rh) := (blk_cell cc 7).trans rfl; have d8 : w7.cell? ⟨w.heap.size, 8, none⟩ = some (.int .i64 sl) := (blk_cell cc 8).trans rfl; have d9 : w7.cell? ⟨w.heap.size, 9, none⟩ = some (.int .i64 cp) := (blk_cell cc 9).trans rfl; clear cc; have B7 := Aside0.mk (below_step B5.out hb); clear hb)) | (go_at_call 12; go_loud (refine (awake_ok _).mono ?_; rintro en w8 ⟨rfl, hb2⟩; have HB2 := Aside0.mk (below_step (below_weaken (below_alloc (Below.refl _ _) (.cells #[.int .i64 n, .int .i64 f, .int .i64 s, .int .i64 dl, .int .i64 ks, .int .i64 ee, .int .i64 wd, .int .i64 rh, .int .i64 sl, .int .i64 cp] 23 (0, 0))) (by simp) (below_alloc B7.out _)) hb2); clear hb2)))
        go_ret
        exact ⟨rfl, HB2.out⟩
theorem few_any (n f s dl ks ee wd rh sl cp i t many : Int) (w : World) (y0 : 0 ≤ many) (y1 : many ≤ 255) : Calls Try.prog 4 #[.agg #[.int .i64 n, .int .i64 f, .int .i64 s, .int .i64 dl, .int .i64 ks, .int .i64 ee, .int .i64 wd, .int .i64 rh, .int .i64 sl, .int .i64 cp], .int .i64 i, .int .i64 t, .int .u8 many] w fun en w' => en = .returned (.bool true) ∧ Below w.heap.size w w' := by
  by_cases h : Ok n f s dl ks ee wd rh sl cp ∧ 0 ≤ i ∧ i < n
  · obtain ⟨r, p, o, e, hpl⟩ : ∃ r p o e, plc n s t = (r, p, o, e) := ⟨_, _, _, _, rfl⟩
    have hrr := ok_r h.1
    have hbd := plc_bd n s t r p o e hpl hrr.1 hrr.2.2.1 hrr.2.2.2 hrr.2.1
    have hp : sched_Place.f 3 n f s dl ks ee wd rh sl cp t = some (r, p, o, e) := by rw [place_in 0 n f s dl ks ee wd rh sl cp t h.1, hpl]
    by_cases he : e = 0
    · subst he
      exact few_ok n f s dl ks ee wd rh sl cp i t many r p o 0 w h.1 h.2.1 h.2.2 y0 y1 hp hbd.1 hbd.2.1
    · exact few_e n f s dl ks ee wd rh sl cp i t many r p o e w h.1 h.2.1 h.2.2 y0 y1 hp hbd.1 hbd.2.1 he
  · exact few_bad n f s dl ks ee wd rh sl cp i t many w h
end Go.Proofs.Ytfaikkhnlioajaa.Gd5
