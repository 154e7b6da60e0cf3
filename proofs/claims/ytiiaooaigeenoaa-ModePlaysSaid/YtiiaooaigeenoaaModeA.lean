/- Three rounds up. -/
import Derived.Test.YtiiaooaigeenoaaProg
import Derived.Below
import Derived.Deep.Draws
import Derived.Deep.AppendLies
import Derived.Maps.AppendAt
import Derived.OwnWalk
import Derived.Laws.BytesArg
import Derived.Laws.MakeOwn
import Derived.Laws.OwnMore
import Derived.Deep.OwnRows
import Derived.Tactics
import Derived.Lib.ConvBytes
import Derived.Laws.Slices
import Derived.WalkKit
import Derived.KernelRfl
import Derived.RowKit3
import Derived.Deep.LoopGhost
import Derived.Deep.QuietTactic
import Derived.BigQuiet
import Derived.WideLaws
import Derived.Deep.DeepCutAuto
import Derived.Deep.CutBlock
import Derived.Deep.RegionHeld3
import Derived.Laws.Rows
import Derived.Lib.AppendStr
import Derived.ArgAppend
import Derived.Laws.IdiomCopy
import Derived.OrdersHeld
import Derived.Laws.BitsLemmas
import Derived.RowKit
import Derived.RegionTactic
import Derived.ChangeAlike
import Derived.Outline
import Derived.LoopTactic
import Derived.WalkSpells
import Derived.WalkLawsBesides
import Derived.Lib.Hide
import Derived.StillTailTactics
import Derived.Deep.RegionWith
import Derived.Deep.RegionLaw
import Derived.Deep.DeepFit
import Derived.Deep.DeepMust
import Derived.Test.YtiiaooaigeenoaaWWords
import Derived.Test.YtiiaooaigeenoaaWLast
import Derived.Test.YtiiaooaigeenoaaWTab
import Derived.Test.YtiiaooaigeenoaaWFour
import Derived.Test.YtiiaooaigeenoaaWQPut
import Derived.Test.YtiiaooaigeenoaaWApart
import Derived.Test.YtiiaooaigeenoaaWArr
import Derived.Test.YtiiaooaigeenoaaWZeros
import Derived.Test.YtiiaooaigeenoaaWFoot
import Derived.Test.YtiiaooaigeenoaaWKept
import Derived.Test.YtiiaooaigeenoaaWShare
import Derived.Test.YtiiaooaigeenoaaWN
import Derived.Test.YtiiaooaigeenoaaWFootNe
import Derived.Test.YtiiaooaigeenoaaWAt
import Derived.Test.YtiiaooaigeenoaaWEqStruct
import Derived.Test.YtiiaooaigeenoaaWRepsOne
import Derived.Test.YtiiaooaigeenoaaWInv
import Derived.Test.YtiiaooaigeenoaaWInvWords
import Derived.Test.YtiiaooaigeenoaaWGuard
import Derived.Test.YtiiaooaigeenoaaWNEv
import Derived.Test.YtiiaooaigeenoaaWMore
import Derived.Test.YtiiaooaigeenoaaMode7
namespace Go.Proofs.Ytiiaooaigeenoaa.ModeA
open Go.RowKit Go.Proofs.YtiiaooaigeenoaaW.PrintWords Go.Proofs.YtiiaooaigeenoaaW.PrintLast Go.Proofs.YtiiaooaigeenoaaW.PrintMore 
attribute [local go_sem] max2_int min2_int max_two min_two max_three min_three max_four min_four
set_option linter.unusedVariables false
set_option linter.unusedSimpArgs false
open Go.Proofs.Ytiiaooaigeenoaa.QBase Go.Proofs.Ytiiaooaigeenoaa.Sch Go.Proofs.Ytiiaooaigeenoaa.Mode1 Go.Proofs.Ytiiaooaigeenoaa.Mode2 Go.Proofs.Ytiiaooaigeenoaa.Mode3 Go.Proofs.Ytiiaooaigeenoaa.Mode4 Go.Proofs.Ytiiaooaigeenoaa.Mode7
theorem new_not (n f s dl ks ee wd rh sl cp i : Int) (w : World) (h : ¬ (Ok n f s dl ks ee wd rh sl cp ∧ 0 ≤ i ∧ i < n)) : Calls Try.prog 8 #[.agg #[.int .i64 n, .int .i64 f, .int .i64 s, .int .i64 dl, .int .i64 ks, .int .i64 ee, .int .i64 wd, .int .i64 rh, .int .i64 sl, .int .i64 cp], .int .i64 i] w fun en w' => en = .returned (.tuple #[.pointer none, .int .i64 1]) ∧ Below w.heap.size w w' := by
  by_cases hk : Ok n f s dl ks ee wd rh sl cp
  · by_cases i0 : 0 ≤ i
    · exact new_high n f s dl ks ee wd rh sl cp i w hk i0 (by by_cases h1 : i < n; exact absurd ⟨hk, i0, h1⟩ h; omega)
    · exact new_low n f s dl ks ee wd rh sl cp i w hk (by omega)
  · exact new_bad n f s dl ks ee wd rh sl cp i w hk
theorem round_to (g : Nat) (n f s dl ks ee wd rh sl cp i md id near : Int) (ag : Bool) (z w : World) (hI : IsS43 z w g n f s dl ks ee wd rh sl cp i md id true) (hB : Below z.heap.size z w) (hk : Ok n f s dl ks ee wd rh sl cp) (i0 : 0 ≤ i) (i1 : i < n) (j0 : 0 ≤ id) (jm : id ≤ 1000000) (m0 : 0 ≤ md) (m1 : md ≤ 4) (a b : Int) (h : roundF (pat n s dl wd rh sl i) n f md id near ag = (a, b)) :
    Calls Try.prog 12 #[.pointer (some ⟨g, 0, none⟩), .int .i64 near, .bool ag] w fun en w' => en = .returned (.tuple #[.int .i64 a, .int .i64 0]) ∧ IsS43 z w' g n f s dl ks ee wd rh sl cp i a b true ∧ Below z.heap.size z w' ∧ KeepBut w w' g none := by
  have := round_any g n f s dl ks ee wd rh sl cp i md id near ag z w hI hB hk i0 i1 j0 jm m0 m1
  rw [h] at this
  exact this
def BoxAt (w0 W : World) (n f s dl ks ee wd rh sl cp : Int) : Prop := W.heap[w0.heap.size]? = some (.cells #[.int .i64 n, .int .i64 f, .int .i64 s, .int .i64 dl, .int .i64 ks, .int .i64 ee, .int .i64 wd, .int .i64 rh, .int .i64 sl, .int .i64 cp] 23 (0, 0))
set_option maxRecDepth 100000 in
set_option maxHeartbeats 4000000 in
theorem up_bad (n f s dl ks ee wd rh sl cp i : Int) (many : Int) (w : World) (h : ¬ (Ok n f s dl ks ee wd rh sl cp ∧ 0 ≤ i ∧ i < n)) : Calls Try.prog 4 #[.agg #[.int .i64 n, .int .i64 f, .int .i64 s, .int .i64 dl, .int .i64 ks, .int .i64 ee, .int .i64 wd, .int .i64 rh, .int .i64 sl, .int .i64 cp], .int .i64 i, .int .u8 many] w fun en w' => en = .returned (.bool true) ∧ Below w.heap.size w w' := by
  have HN := Aside0.mk h
  clear h
  go_enter Try.func4, Try.ntmps4
  go_wp2_with (first | (go_at_call 8; go_loud (refine (new_not n f s dl ks ee wd rh sl cp i _ HN.out).mono ?_; rintro en w1 ⟨rfl, hb1⟩; have HB1 := Aside0.mk (below_step (below_alloc (Below.refl _ _) (.cells #[.int .i64 n, .int .i64 f, .int .i64 s, .int .i64 dl, .int .i64 ks, .int .i64 ee, .int .i64 wd, .int .i64 rh, .int .i64 sl, .int .i64 cp] 23 (0, 0))) hb1); clear hb1)) | (go_at_call 9; go_loud (refine (awake_ok _).mono ?_; rintro en w2 ⟨rfl, hb2⟩; have HB2 := Aside0.mk (below_step HB1.out hb2); clear hb2)))
  go_ret
  exact ⟨rfl, HB2.out⟩
theorem up_f2 (p n f near : Int) (ag : Bool) (hp : 12 ≤ p) (he : n - f ≤ near) : roundF p n f 2 0 near ag = (3, 1) := by
  unfold roundF stepF waitF
  rw [if_neg (by omega), if_pos rfl, if_pos he, if_neg (by omega), if_neg (by omega)]; rfl
theorem up_f1 (p n f near : Int) (ag : Bool) : roundF p n f 1 0 near ag = (1, 0) := by
  unfold roundF; rw [if_pos (Or.inr rfl)]
theorem up_f34 (p n f md id near : Int) (he : n - f ≤ near) (hm : md = 3 ∨ md = 4) : roundF p n f md id near true = (4, 0) := by
  have e : stepF n f md near true = 4 := by unfold stepF; rw [if_neg (by omega), if_pos he]; rfl
  unfold roundF waitF
  rw [if_neg (by omega), e, if_pos rfl]
set_option maxRecDepth 100000 in
set_option maxHeartbeats 4000000 in
theorem up_good (n f s dl ks ee wd rh sl cp i many : Int) (w : World) (hk : Ok n f s dl ks ee wd rh sl cp) (i0 : 0 ≤ i) (i1 : i < n) (y0 : 0 ≤ many) (y1 : many ≤ 255) : Calls Try.prog 4 #[.agg #[.int .i64 n, .int .i64 f, .int .i64 s, .int .i64 dl, .int .i64 ks, .int .i64 ee, .int .i64 wd, .int .i64 rh, .int .i64 sl, .int .i64 cp], .int .i64 i, .int .u8 many] w fun en w' => en = .returned (.bool true) ∧ Below w.heap.size w w' := by
  have hp := pat_bd n f s dl ks ee wd rh sl cp i hk i0 i1
  obtain ⟨n0, n1, f0, f1⟩ := ok_n hk
  have E1 := Aside0.mk (up_f1 (pat n s dl wd rh sl i) n f n true)
  have E2 := Aside0.mk (up_f2 (pat n s dl wd rh sl i) n f n true hp.1 (by omega))
  have HK := Aside0.mk hk
  clear hp hk
  go_enter Try.func4, Try.ntmps4
  go_wp2_with (first | (go_at_call 8; go_loud (refine (new_yes n f s dl ks ee wd rh sl cp i _ HK.out i0 i1).mono ?_; rintro en w1 ⟨g, rfl, a1, a2⟩; have c0 : w1.cell? ⟨w.heap.size, 0, none⟩ = some (.int .i64 n) := (blk_cell (blk_below (blk_new w (.cells #[.int .i64 n, .int .i64 f, .int .i64 s, .int .i64 dl, .int .i64 ks, .int .i64 ee, .int .i64 wd, .int .i64 rh, .int .i64 sl, .int .i64 cp] 23 (0, 0))) a2) 0).trans rfl; have I1 := Aside0.mk a1; have B1 := Aside0.mk a2; clear a1 a2; have tok1 : True := trivial)) | (go_at_call 12; have _t := tok1; go_loud (refine (round_to g n f s dl ks ee wd rh sl cp i 1 0 n true _ _ I1.out B1.out HK.out i0 i1 (by omega) (by omega) (by omega) (by omega) 1 0 E1.out).mono ?_; rintro en w2 ⟨rfl, a1, a2, a3⟩; have d2 : w2.cell? ⟨w.heap.size, 0, none⟩ = some (.int .i64 n) := (blk_cell (blk_below (blk_new w (.cells #[.int .i64 n, .int .i64 f, .int .i64 s, .int .i64 dl, .int .i64 ks, .int .i64 ee, .int .i64 wd, .int .i64 rh, .int .i64 sl, .int .i64 cp] 23 (0, 0))) a2) 0).trans rfl; have I2 := Aside0.mk a1; have B2 := Aside0.mk a2; clear a1 a2 a3 tok1; have tok2 : True := trivial)) | (go_at_call 10; go_loud (refine (set_yes g n f s dl ks ee wd rh sl cp i 1 0 1 _ _ I2.out B2.out (by omega) (by omega) rfl).mono ?_; rintro en w3 ⟨rfl, a1, a2, a3⟩; have d3 : w3.cell? ⟨w.heap.size, 0, none⟩ = some (.int .i64 n) := (blk_cell (blk_below (blk_new w (.cells #[.int .i64 n, .int .i64 f, .int .i64 s, .int .i64 dl, .int .i64 ks, .int .i64 ee, .int .i64 wd, .int .i64 rh, .int .i64 sl, .int .i64 cp] 23 (0, 0))) a2) 0).trans rfl; have I3 := Aside0.mk a1; have B3 := Aside0.mk a2; clear a1 a2 a3)) | (go_at_call 12; have _t := tok2; go_loud (refine (round_to g n f s dl ks ee wd rh sl cp i 2 0 n true _ _ I3.out B3.out HK.out i0 i1 (by omega) (by omega) (by omega) (by omega) 3 1 E2.out).mono ?_; rintro en w4 ⟨rfl, a1, a2, a3⟩; have d4 : w4.cell? ⟨w.heap.size, 0, none⟩ = some (.int .i64 n) := (blk_cell (blk_below (blk_new w (.cells #[.int .i64 n, .int .i64 f, .int .i64 s, .int .i64 dl, .int .i64 ks, .int .i64 ee, .int .i64 wd, .int .i64 rh, .int .i64 sl, .int .i64 cp] 23 (0, 0))) a2) 0).trans rfl; have I4 := Aside0.mk a1; have B4 := Aside0.mk a2; clear a1 a2 a3 tok2)))
  go_loopw [14] (fun v wr => ∃ (k md id : Int), v = .int .i64 k ∧ 0 ≤ k ∧ k ≤ many ∧ (md = 3 ∨ md = 4) ∧ 0 ≤ id ∧ id ≤ 1 ∧ Aside0 (IsS43 (w.alloc (.cells #[.int .i64 n, .int .i64 f, .int .i64 s, .int .i64 dl, .int .i64 ks, .int .i64 ee, .int .i64 wd, .int .i64 rh, .int .i64 sl, .int .i64 cp] 23 (0, 0))) wr g n f s dl ks ee wd rh sl cp i md id true) ∧ Aside0 (Below (w.alloc (.cells #[.int .i64 n, .int .i64 f, .int .i64 s, .int .i64 dl, .int .i64 ks, .int .i64 ee, .int .i64 wd, .int .i64 rh, .int .i64 sl, .int .i64 cp] 23 (0, 0))).heap.size (w.alloc (.cells #[.int .i64 n, .int .i64 f, .int .i64 s, .int .i64 dl, .int .i64 ks, .int .i64 ee, .int .i64 wd, .int .i64 rh, .int .i64 sl, .int .i64 cp] 23 (0, 0))) wr)) (fun v _ => (many - intOf v).toNat)
  case atStart => exact ⟨0, 3, 1, rfl, by omega, by omega, by omega, by omega, by omega, I4, B4⟩
  case round =>
    obtain ⟨k, md, id, rfl, k0, k1, hm, d0, d1, I5, B5⟩ := hrel
    clear I1 B1 c0 I2 B2 d2 I3 B3 d3 I4 B4 d4
    have c0 : wr.cell? ⟨w.heap.size, 0, none⟩ = some (.int .i64 n) := (blk_cell (blk_below (blk_new w (.cells #[.int .i64 n, .int .i64 f, .int .i64 s, .int .i64 dl, .int .i64 ks, .int .i64 ee, .int .i64 wd, .int .i64 rh, .int .i64 sl, .int .i64 cp] 23 (0, 0))) B5.out) 0).trans rfl
    have E3 := Aside0.mk (up_f34 (pat n s dl wd rh sl i) n f md id n (by omega) hm)
    have m0 : 0 ≤ md := by omega
    have m1 : md ≤ 4 := by omega
    clear hm
    have tok3 : True := trivial
    by_cases hlt : k < many
    · go_wp2_with (first | (go_at_call 12; have _t := tok3; go_loud (refine (round_to g n f s dl ks ee wd rh sl cp i md id n true _ _ I5.out B5.out HK.out i0 i1 (by omega) (by omega) (by omega) (by omega) 4 0 E3.out).mono ?_; rintro en w6 ⟨rfl, a1, a2, a3⟩; have d6 : w6.cell? ⟨w.heap.size, 0, none⟩ = some (.int .i64 n) := (blk_cell (blk_below (blk_new w (.cells #[.int .i64 n, .int .i64 f, .int .i64 s, .int .i64 dl, .int .i64 ks, .int .i64 ee, .int .i64 wd, .int .i64 rh, .int .i64 sl, .int .i64 cp] 23 (0, 0))) a2) 0).trans rfl; have I6 := Aside0.mk a1; have B6 := Aside0.mk a2; clear a1 a2 a3 tok3)) | (go_at_call 13; go_loud (refine (idle_ok g n f s dl ks ee wd rh sl cp i 4 0 _ _ I6.out B6.out).mono ?_; rintro en w7 ⟨rfl, rfl⟩)))
      go_roundw
      case rel => exact ⟨k + 1, 4, 0, by go_num, by omega, by omega, Or.inr rfl, by omega, by omega, I6, B6⟩
      case measure => simp [intOf]; omega
    · go_wp2_with (first | (go_at_call 9; go_loud (refine (awake_ok _).mono ?_; rintro en w8 ⟨rfl, hb2⟩; have HB2 := Aside0.mk (below_step (below_weaken (below_alloc (Below.refl _ _) (.cells #[.int .i64 n, .int .i64 f, .int .i64 s, .int .i64 dl, .int .i64 ks, .int .i64 ee, .int .i64 wd, .int .i64 rh, .int .i64 sl, .int .i64 cp] 23 (0, 0))) (by simp) B5.out) hb2); clear hb2)))
      go_ret
      exact ⟨rfl, HB2.out⟩
theorem up_any (n f s dl ks ee wd rh sl cp i many : Int) (w : World) (y0 : 0 ≤ many) (y1 : many ≤ 255) : Calls Try.prog 4 #[.agg #[.int .i64 n, .int .i64 f, .int .i64 s, .int .i64 dl, .int .i64 ks, .int .i64 ee, .int .i64 wd, .int .i64 rh, .int .i64 sl, .int .i64 cp], .int .i64 i, .int .u8 many] w fun en w' => en = .returned (.bool true) ∧ Below w.heap.size w w' := by
  by_cases h : Ok n f s dl ks ee wd rh sl cp ∧ 0 ≤ i ∧ i < n
  · exact up_good n f s dl ks ee wd rh sl cp i many w h.1 h.2.1 h.2.2 y0 y1
  · exact up_bad n f s dl ks ee wd rh sl cp i many w h
end Go.Proofs.Ytiiaooaigeenoaa.ModeA
