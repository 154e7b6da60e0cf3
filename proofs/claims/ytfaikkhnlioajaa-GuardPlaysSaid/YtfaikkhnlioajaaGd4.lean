/- What asking for another frame comes to. -/
import Derived.Test.YtfaikkhnlioajaaProg
import Derived.Below
import Derived.Deep.Draws
import Derived.Deep.AppendLies
import Derived.Maps.AppendAt
import Derived.OwnWalk
import Derived.Laws.BytesArg
import Derived.Laws.MakeOwn
import Derived.Laws.OwnMore
import Derived.Deep.OwnRows
import Derived.Tactics
import Derived.Lib.ConvBytes
import Derived.Laws.Slices
import Derived.WalkKit
import Derived.KernelRfl
import Derived.RowKit3
import Derived.Deep.LoopGhost
import Derived.Deep.QuietTactic
import Derived.BigQuiet
import Derived.WideLaws
import Derived.Deep.DeepCutAuto
import Derived.Deep.CutBlock
import Derived.Deep.RegionHeld3
import Derived.Laws.Rows
import Derived.Lib.AppendStr
import Derived.ArgAppend
import Derived.Laws.IdiomCopy
import Derived.OrdersHeld
import Derived.Laws.BitsLemmas
import Derived.RowKit
import Derived.RegionTactic
import Derived.ChangeAlike
import Derived.Outline
import Derived.LoopTactic
import Derived.WalkSpells
import Derived.WalkLawsBesides
import Derived.Lib.Hide
import Derived.StillTailTactics
import Derived.Deep.RegionWith
import Derived.Deep.RegionLaw
import Derived.Deep.DeepFit
import Derived.Deep.DeepMust
import Derived.Test.YtfaikkhnlioajaaWWords
import Derived.Test.YtfaikkhnlioajaaWLast
import Derived.Test.YtfaikkhnlioajaaWTab
import Derived.Test.YtfaikkhnlioajaaWFour
import Derived.Test.YtfaikkhnlioajaaWQPut
import Derived.Test.YtfaikkhnlioajaaWApart
import Derived.Test.YtfaikkhnlioajaaWArr
import Derived.Test.YtfaikkhnlioajaaWZeros
import Derived.Test.YtfaikkhnlioajaaWFoot
import Derived.Test.YtfaikkhnlioajaaWKept
import Derived.Test.YtfaikkhnlioajaaWShare
import Derived.Test.YtfaikkhnlioajaaWN
import Derived.Test.YtfaikkhnlioajaaWFootNe
import Derived.Test.YtfaikkhnlioajaaWAt
import Derived.Test.YtfaikkhnlioajaaWEqStruct
import Derived.Test.YtfaikkhnlioajaaWRepsOne
import Derived.Test.YtfaikkhnlioajaaWInv
import Derived.Test.YtfaikkhnlioajaaWInvWords
import Derived.Test.YtfaikkhnlioajaaWGuard
import Derived.Test.YtfaikkhnlioajaaWNEv
import Derived.Test.YtfaikkhnlioajaaWMore
import Derived.Test.YtfaikkhnlioajaaGd2
import Derived.Test.YtfaikkhnlioajaaGd3
namespace Go.Proofs.Ytfaikkhnlioajaa.Gd4
open Go.RowKit Go.Proofs.YtfaikkhnlioajaaW.PrintWords Go.Proofs.YtfaikkhnlioajaaW.PrintLast Go.Proofs.YtfaikkhnlioajaaW.PrintMore 
attribute [local go_sem] max2_int min2_int max_two min_two max_three min_three max_four min_four
set_option linter.unusedVariables false
set_option linter.unusedSimpArgs false
open Go.Proofs.Ytfaikkhnlioajaa.QBase Go.Proofs.Ytfaikkhnlioajaa.Sch Go.Proofs.Ytfaikkhnlioajaa.Plc Go.Proofs.Ytfaikkhnlioajaa.Gd1 Go.Proofs.Ytfaikkhnlioajaa.Gd2 Go.Proofs.Ytfaikkhnlioajaa.Gd3 Go.Maps
theorem grown_alloc {w w' : World} {bm : Nat} (h : w.grownBy w' (some bm)) (o : Obj) (hb : bm < w.heap.size) : w.grownBy (w'.alloc o) (some bm) := h.andThen (World.grownBy_alloc w' o none) (fun j e => by cases e)
theorem grown_drewN {w w' : World} {bm : Nat} (h : w.grownBy w' (some bm)) (m : Nat) : w.grownBy (w'.drewN m) (some bm) := ⟨h.os, h.tape, h.output, h.size, h.block⟩
theorem grown_drew {w w' : World} {bm : Nat} (h : w.grownBy w' (some bm)) : w.grownBy w'.drew (some bm) := ⟨h.os, h.tape, h.output, h.size, h.block⟩
theorem grown_then {w w' w2 : World} {bm : Nat} (h : w.grownBy w' (some bm)) (k : w'.grownBy w2 (some bm)) : w.grownBy w2 (some bm) := h.andThen k (fun j e => by cases e; exact Or.inr rfl)
theorem MapIs.put {w : World} {bm k : Nat} {M : Int → Int} {D : DataW Unit} (r q : Int) (h2 : ∀ x : Int, D.atKey (.int .i64 x) (.lit (.int .i64 0)) = .lit (.int .i64 (M x))) (hm : IsMap D) (h : w.ownsMap Try.prog 3 (plainElem Try.prog 3) bm k (D.put (.int .i64 r) (.lit (.int .i64 q)))) : MapIs w bm k (fun x => if x = r then q else M x) := by
  refine ⟨_, h, fun x => ?_⟩
  show _ = DataW.lit (.int .i64 (if x = r then q else M x))
  by_cases hx : x = r
  · subst hx; rw [atKey_put_same (k := .int .i64 x) hm trivial, if_pos rfl]
  · rw [atKey_put_other (fun e => hx (by cases e; rfl)), if_neg hx, h2 x]
set_option maxRecDepth 100000 in
set_option maxHeartbeats 4000000 in
theorem other_e (g bm k : Nat) (n f s dl ks ee wd rh sl cp i la le t r p o e : Int) (M : Int → Int) (z w : World) (hI : IsG z w g bm n f s dl ks ee wd rh sl cp i la le) (hB : Below z.heap.size z w) (hM : MapIs w bm k M) (hbm : z.heap.size ≤ bm) (hM0 : ∀ x, 0 ≤ M x) (hk : Ok n f s dl ks ee wd rh sl cp) (hp : sched_Place.f 3 n f s dl ks ee wd rh sl cp t = some (r, p, o, e)) (r0 : 0 ≤ r) (r1 : r ≤ 1048575) (he : e ≠ 0) : Calls Try.prog 16 #[.pointer (some ⟨g, 0, none⟩), .int .i64 t] w fun en w' => en = .returned (.int .i64 e) ∧ MapIs w' bm k M ∧ w.grownBy w' (some bm) := by
  have c0 : w.cell? ⟨g, 0, none⟩ = some (.int .i64 n) := (blk_cell hI.1 0).trans rfl
  have c1 : w.cell? ⟨g, 1, none⟩ = some (.int .i64 f) := (blk_cell hI.1 1).trans rfl
  have c2 : w.cell? ⟨g, 2, none⟩ = some (.int .i64 s) := (blk_cell hI.1 2).trans rfl
  have c3 : w.cell? ⟨g, 3, none⟩ = some (.int .i64 dl) := (blk_cell hI.1 3).trans rfl
  have c4 : w.cell? ⟨g, 4, none⟩ = some (.int .i64 ks) := (blk_cell hI.1 4).trans rfl
  have c5 : w.cell? ⟨g, 5, none⟩ = some (.int .i64 ee) := (blk_cell hI.1 5).trans rfl
  have c6 : w.cell? ⟨g, 6, none⟩ = some (.int .i64 wd) := (blk_cell hI.1 6).trans rfl
  have c7 : w.cell? ⟨g, 7, none⟩ = some (.int .i64 rh) := (blk_cell hI.1 7).trans rfl
  have c8 : w.cell? ⟨g, 8, none⟩ = some (.int .i64 sl) := (blk_cell hI.1 8).trans rfl
  have c9 : w.cell? ⟨g, 9, none⟩ = some (.int .i64 cp) := (blk_cell hI.1 9).trans rfl
  have hgs : g < w.heap.size := blk_lt hI.1
  have hne := hM.ne hI.1
  have hn : 1 ≤ n ∧ n ≤ 8 := by unfold Ok at hk; omega
  obtain ⟨n0, n1⟩ := hn
  have HI := Aside0.mk hI
  have HB := Aside0.mk hB
  have HP := Aside0.mk hp
  have HM := Aside0.mk hM
  have HM0 := Aside0.mk hM0
  clear hI hB hp hM hM0 hk
  have heb : (e != 0) = true := by simp [he]
  clear he
  go_enter Try.func16, Try.ntmps16
  go_wp2_with (first | (go_at_call 48; go_loud (refine (none_ok g bm n f s dl ks ee wd rh sl cp i la le z w HI.out).mono ?_; rintro en w1 ⟨rfl, e1⟩; rw [e1]; clear e1)) | (go_at_call 14; go_loud (refine (sched_Place.calls 3 n f s dl ks ee wd rh sl cp t r p o e _ HP.out).mono ?_; rintro en w2 ⟨rfl, hb⟩; have I2 : Aside0 (IsG z w2 g bm n f s dl ks ee wd rh sl cp i la le) := ⟨blk_below HI.out.1 hb, HI.out.2⟩; have B2 := Aside0.mk (below_step HB.out hb); have G2 : Aside0 (w.grownBy w2 (some bm)) := ⟨⟨hb.os, hb.tape, hb.output, hb.size, fun i hi _ => hb.block i hi⟩⟩; have M2 : Aside0 (MapIs w2 bm k M) := ⟨HM.out.kept (row := none) ⟨hb.os, hb.tape, hb.output, hb.size, fun i hi _ => hb.block i hi⟩ (by simp)⟩; have hs2 : g < w2.heap.size := Nat.lt_of_lt_of_le hgs hb.size; have k0 : w2.cell? ⟨g, 0, none⟩ = some (.int .i64 n) := (blk_cell I2.out.1 0).trans rfl; have k13 : w2.cell? ⟨g, 13, none⟩ = some (.map (some bm)) := (blk_cell I2.out.1 13).trans rfl; clear hb)))
  go_ret
  exact ⟨rfl, M2.out.alloc _, grown_alloc G2.out _ HM.out.lt⟩
set_option maxRecDepth 100000 in
set_option maxHeartbeats 4000000 in
theorem other_full (g bm k : Nat) (n f s dl ks ee wd rh sl cp i la le t r p o e : Int) (M : Int → Int) (z w : World) (hI : IsG z w g bm n f s dl ks ee wd rh sl cp i la le) (hB : Below z.heap.size z w) (hM : MapIs w bm k M) (hbm : z.heap.size ≤ bm) (hM0 : ∀ x, 0 ≤ M x) (hk : Ok n f s dl ks ee wd rh sl cp) (hp : sched_Place.f 3 n f s dl ks ee wd rh sl cp t = some (r, p, o, 0)) (r0 : 0 ≤ r) (r1 : r ≤ 1048575) (hf : 4 * n ≤ M r) : Calls Try.prog 16 #[.pointer (some ⟨g, 0, none⟩), .int .i64 t] w fun en w' => en = .returned (.int .i64 9) ∧ MapIs w' bm k M ∧ w.grownBy w' (some bm) := by
  have c0 : w.cell? ⟨g, 0, none⟩ = some (.int .i64 n) := (blk_cell hI.1 0).trans rfl
  have c1 : w.cell? ⟨g, 1, none⟩ = some (.int .i64 f) := (blk_cell hI.1 1).trans rfl
  have c2 : w.cell? ⟨g, 2, none⟩ = some (.int .i64 s) := (blk_cell hI.1 2).trans rfl
  have c3 : w.cell? ⟨g, 3, none⟩ = some (.int .i64 dl) := (blk_cell hI.1 3).trans rfl
  have c4 : w.cell? ⟨g, 4, none⟩ = some (.int .i64 ks) := (blk_cell hI.1 4).trans rfl
  have c5 : w.cell? ⟨g, 5, none⟩ = some (.int .i64 ee) := (blk_cell hI.1 5).trans rfl
  have c6 : w.cell? ⟨g, 6, none⟩ = some (.int .i64 wd) := (blk_cell hI.1 6).trans rfl
  have c7 : w.cell? ⟨g, 7, none⟩ = some (.int .i64 rh) := (blk_cell hI.1 7).trans rfl
  have c8 : w.cell? ⟨g, 8, none⟩ = some (.int .i64 sl) := (blk_cell hI.1 8).trans rfl
  have c9 : w.cell? ⟨g, 9, none⟩ = some (.int .i64 cp) := (blk_cell hI.1 9).trans rfl
  have hgs : g < w.heap.size := blk_lt hI.1
  have hne := hM.ne hI.1
  have hn : 1 ≤ n ∧ n ≤ 8 := by unfold Ok at hk; omega
  obtain ⟨n0, n1⟩ := hn
  have HI := Aside0.mk hI
  have HB := Aside0.mk hB
  have HP := Aside0.mk hp
  have HM := Aside0.mk hM
  have HM0 := Aside0.mk hM0
  clear hI hB hp hM hM0 hk
  have HRW : Aside0 ((Lit.int .i64 r).wf = true) := ⟨WalkArith.wf_i64 (by omega)⟩
  obtain ⟨q, hq⟩ : ∃ q, M r = q := ⟨_, rfl⟩
  have QL : Aside0 (∀ W, MapIs W bm k M → (Instr.lookup 90 (.map (some bm)) (.int .i64 r) false).run Try.prog W = .ok (.int .i64 q) W) := ⟨fun W h => by rw [h.look r HRW.out, hq]⟩
  rw [hq] at hf
  have v1 : IntKind.i64.wrap (4 * n) = 4 * n := by rw [IntKind.wrap_i64]; omega
  have v2 : decide (4 * n ≤ q) = true := decide_eq_true hf
  clear hq
  go_enter Try.func16, Try.ntmps16
  go_upto_region 6 with (first | (go_at_call 48; go_loud (refine (none_ok g bm n f s dl ks ee wd rh sl cp i la le z w HI.out).mono ?_; rintro en w1 ⟨rfl, e1⟩; rw [e1]; clear e1)) | (go_at_call 14; go_loud (refine (sched_Place.calls 3 n f s dl ks ee wd rh sl cp t r p o 0 _ HP.out).mono ?_; rintro en w2 ⟨rfl, hb⟩; have I2 : Aside0 (IsG z w2 g bm n f s dl ks ee wd rh sl cp i la le) := ⟨blk_below HI.out.1 hb, HI.out.2⟩; have B2 := Aside0.mk (below_step HB.out hb); have G2 : Aside0 (w.grownBy w2 (some bm)) := ⟨⟨hb.os, hb.tape, hb.output, hb.size, fun i hi _ => hb.block i hi⟩⟩; have M2 : Aside0 (MapIs w2 bm k M) := ⟨HM.out.kept (row := none) ⟨hb.os, hb.tape, hb.output, hb.size, fun i hi _ => hb.block i hi⟩ (by simp)⟩; have hs2 : g < w2.heap.size := Nat.lt_of_lt_of_le hgs hb.size; have k0 : w2.cell? ⟨g, 0, none⟩ = some (.int .i64 n) := (blk_cell I2.out.1 0).trans rfl; have k13 : w2.cell? ⟨g, 13, none⟩ = some (.map (some bm)) := (blk_cell I2.out.1 13).trans rfl; have hl : ∀ m, (Instr.lookup 90 (.map (some bm)) (.int .i64 r) false).run Try.prog ((w2.alloc (.cells #[.int .i64 r, .int .i64 p, .int .i64 o] 33)).drewN m) = .ok (.int .i64 q) ((w2.alloc (.cells #[.int .i64 r, .int .i64 p, .int .i64 o] 33)).drewN m) := (fun m => QL.out _ ((M2.out.alloc (.cells #[.int .i64 r, .int .i64 p, .int .i64 o] 33)).drewN m)); clear hb)))
  go_quiet (fail)
  go_wp2
  go_ret
  exact ⟨rfl, (M2.out.alloc _).drewN _, grown_drewN (grown_alloc G2.out _ HM.out.lt) _⟩
set_option maxRecDepth 100000 in
set_option maxHeartbeats 4000000 in
theorem other_ok (g bm k : Nat) (n f s dl ks ee wd rh sl cp i la le t r p o e : Int) (M : Int → Int) (z w : World) (hI : IsG z w g bm n f s dl ks ee wd rh sl cp i la le) (hB : Below z.heap.size z w) (hM : MapIs w bm k M) (hbm : z.heap.size ≤ bm) (hM0 : ∀ x, 0 ≤ M x) (hk : Ok n f s dl ks ee wd rh sl cp) (hp : sched_Place.f 3 n f s dl ks ee wd rh sl cp t = some (r, p, o, 0)) (r0 : 0 ≤ r) (r1 : r ≤ 1048575) (hf : M r < 4 * n) (hkk : k ≤ 100000) : Calls Try.prog 16 #[.pointer (some ⟨g, 0, none⟩), .int .i64 t] w fun en w' => en = .returned (.int .i64 0) ∧ MapIs w' bm (k + 1) (fun x => if r - 64 ≤ x then (if x = r then M r + 1 else M x) else 0) ∧ w.grownBy w' (some bm) := by
  have c0 : w.cell? ⟨g, 0, none⟩ = some (.int .i64 n) := (blk_cell hI.1 0).trans rfl
  have c1 : w.cell? ⟨g, 1, none⟩ = some (.int .i64 f) := (blk_cell hI.1 1).trans rfl
  have c2 : w.cell? ⟨g, 2, none⟩ = some (.int .i64 s) := (blk_cell hI.1 2).trans rfl
  have c3 : w.cell? ⟨g, 3, none⟩ = some (.int .i64 dl) := (blk_cell hI.1 3).trans rfl
  have c4 : w.cell? ⟨g, 4, none⟩ = some (.int .i64 ks) := (blk_cell hI.1 4).trans rfl
  have c5 : w.cell? ⟨g, 5, none⟩ = some (.int .i64 ee) := (blk_cell hI.1 5).trans rfl
  have c6 : w.cell? ⟨g, 6, none⟩ = some (.int .i64 wd) := (blk_cell hI.1 6).trans rfl
  have c7 : w.cell? ⟨g, 7, none⟩ = some (.int .i64 rh) := (blk_cell hI.1 7).trans rfl
  have c8 : w.cell? ⟨g, 8, none⟩ = some (.int .i64 sl) := (blk_cell hI.1 8).trans rfl
  have c9 : w.cell? ⟨g, 9, none⟩ = some (.int .i64 cp) := (blk_cell hI.1 9).trans rfl
  have hgs : g < w.heap.size := blk_lt hI.1
  have hne := hM.ne hI.1
  have hn : 1 ≤ n ∧ n ≤ 8 := by unfold Ok at hk; omega
  obtain ⟨n0, n1⟩ := hn
  have HI := Aside0.mk hI
  have HB := Aside0.mk hB
  have HP := Aside0.mk hp
  have HM := Aside0.mk hM
  have HM0 := Aside0.mk hM0
  clear hI hB hp hM hM0 hk
  have HRW : Aside0 ((Lit.int .i64 r).wf = true) := ⟨WalkArith.wf_i64 (by omega)⟩
  obtain ⟨q, hq⟩ : ∃ q, M r = q := ⟨_, rfl⟩
  have QL : Aside0 (∀ W, MapIs W bm k M → (Instr.lookup 90 (.map (some bm)) (.int .i64 r) false).run Try.prog W = .ok (.int .i64 q) W) := ⟨fun W h => by rw [h.look r HRW.out, hq]⟩
  have HQ := Aside0.mk hq
  rw [hq] at hf
  have hq0 : 0 ≤ q := by rw [← hq]; exact HM0.out r
  have v1 : IntKind.i64.wrap (4 * n) = 4 * n := by rw [IntKind.wrap_i64]; omega
  have v2 : decide (4 * n ≤ q) = false := decide_eq_false (by omega)
  have v3 : IntKind.i64.wrap (q + 1) = q + 1 := by rw [IntKind.wrap_i64]; omega
  have V3 := Aside0.mk v3
  clear hq v3
  go_enter Try.func16, Try.ntmps16
  go_upto_region 6 with (first | (go_at_call 48; go_loud (refine (none_ok g bm n f s dl ks ee wd rh sl cp i la le z w HI.out).mono ?_; rintro en w1 ⟨rfl, e1⟩; rw [e1]; clear e1)) | (go_at_call 14; go_loud (refine (sched_Place.calls 3 n f s dl ks ee wd rh sl cp t r p o 0 _ HP.out).mono ?_; rintro en w2 ⟨rfl, hb⟩; have I2 : Aside0 (IsG z w2 g bm n f s dl ks ee wd rh sl cp i la le) := ⟨blk_below HI.out.1 hb, HI.out.2⟩; have B2 := Aside0.mk (below_step HB.out hb); have G2 : Aside0 (w.grownBy w2 (some bm)) := ⟨⟨hb.os, hb.tape, hb.output, hb.size, fun i hi _ => hb.block i hi⟩⟩; have M2 : Aside0 (MapIs w2 bm k M) := ⟨HM.out.kept (row := none) ⟨hb.os, hb.tape, hb.output, hb.size, fun i hi _ => hb.block i hi⟩ (by simp)⟩; have hs2 : g < w2.heap.size := Nat.lt_of_lt_of_le hgs hb.size; have k0 : w2.cell? ⟨g, 0, none⟩ = some (.int .i64 n) := (blk_cell I2.out.1 0).trans rfl; have k13 : w2.cell? ⟨g, 13, none⟩ = some (.map (some bm)) := (blk_cell I2.out.1 13).trans rfl; have hl : ∀ m, (Instr.lookup 90 (.map (some bm)) (.int .i64 r) false).run Try.prog ((w2.alloc (.cells #[.int .i64 r, .int .i64 p, .int .i64 o] 33)).drewN m) = .ok (.int .i64 q) ((w2.alloc (.cells #[.int .i64 r, .int .i64 p, .int .i64 o] 33)).drewN m) := (fun m => QL.out _ ((M2.out.alloc (.cells #[.int .i64 r, .int .i64 p, .int .i64 o] 33)).drewN m)); clear hb)))
  go_quiet (fail)
  go_upto_region 8 with (fail)
  refine wp_gen (fun W => (IsG z W g bm n f s dl ks ee wd rh sl cp i la le) ∧ MapIs W bm k M ∧ w.grownBy W (some bm) ∧ W.heap[w2.heap.size]? = some (.cells #[.int .i64 r, .int .i64 p, .int .i64 o] 33 (0, 0)) ∧ bm < w2.heap.size ∧ Below z.heap.size z W) ⟨(I2.out.alloc _).drewN _, (M2.out.alloc _).drewN _, grown_drewN (grown_alloc G2.out _ HM.out.lt) _, blk_drewN (blk_new _ _) _, M2.out.lt, pw_below_drewN (below_alloc B2.out _) _⟩ ?_
  rintro W ⟨a1, a2, a3, a4, a5, a6⟩
  have d13 : W.cell? ⟨g, 13, none⟩ = some (.map (some bm)) := (blk_cell a1.1 13).trans rfl
  have x0 : W.cell? ⟨w2.heap.size, 0, none⟩ = some (.int .i64 r) := (blk_cell a4 0).trans rfl
  have hl2 : (Instr.lookup 90 (.map (some bm)) (.int .i64 r) false).run Try.prog W.drew = .ok (.int .i64 q) W.drew := QL.out _ (a2.drewN 1)
  obtain ⟨bx, hbx⟩ : ∃ bx, w2.heap.size = bx := ⟨_, rfl⟩
  have A1 := Aside0.mk a1
  obtain ⟨D, hown, hat⟩ := a2
  have HAT := Aside0.mk hat
  have A3 := Aside0.mk a3
  have A4 := Aside0.mk a4
  have A6 := Aside0.mk a6
  have hnx : bm ≠ w2.heap.size := by omega
  have v3 := V3.out
  clear a1 a3 a4 a6 hat I2 B2 G2 M2 k0 k13 hl hs2 hbx
  go_still_tail 8, (by kernel_rfl)
  go_wp2_with (first | (at_mapUpdate; refine wpList_mapUpdate_own _ rfl _ _ _ 90 rfl 3 3 law3 Try.underlying90 _ bm k D rfl hown (by unfold maxLen; omega) _ _ _ rfl rfl (keyOf_int_mk Try.underlying3 HRW.out) (.lit (.int .i64 (q + 1))) [] (plainElem_int Try.underlying3 (WalkArith.wf_i64 (by omega))) ?_; intro w3 hown3 hgrow3; have x3 : w3.cell? ⟨w2.heap.size, 0, none⟩ = some (.int .i64 r) := (World.cell?_of_block (w := W) (hgrow3.block _ (blk_lt A4.out) (by simpa using fun e => hnx e.symm))).trans x0; have I3 : Aside0 (IsG z w3 g bm n f s dl ks ee wd rh sl cp i la le) := ⟨IsG.kept A1.out.drew hgrow3 hne⟩; have M3 := Aside0.mk (MapIs.put r (q + 1) HAT.out hown.isMap hown3); have G3 := Aside0.mk (grown_then (grown_drew A3.out) hgrow3); clear hown3 hgrow3) | (go_at_call 50; go_loud (refine (clean_ok g bm (k + 1) n f s dl ks ee wd rh sl cp i la le r _ z _ I3.out M3.out ?hc r0 r1).mono ?_; (case hc => (intro x; (try dsimp only); split; omega; exact HM0.out x)); rintro en w4 ⟨rfl, hM4, hg4⟩; have M4 := Aside0.mk hM4; have G4 := Aside0.mk hg4; clear hM4 hg4)))
  go_ret
  refine ⟨rfl, ?_, grown_then G3.out G4.out⟩
  rw [HQ.out]
  exact M4.out
end Go.Proofs.Ytfaikkhnlioajaa.Gd4
