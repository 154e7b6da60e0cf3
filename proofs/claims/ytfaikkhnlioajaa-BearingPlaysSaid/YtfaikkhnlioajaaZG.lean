/- Texts of this seat, one behind the other: Gd1 Gd2 Gd3 Gd4. -/
import Derived.Test.YtfaikkhnlioajaaProg
import Derived.Below
import Derived.Deep.Draws
import Derived.Deep.AppendLies
import Derived.Maps.AppendAt
import Derived.OwnWalk
import Derived.Laws.BytesArg
import Derived.Laws.MakeOwn
import Derived.Laws.OwnMore
import Derived.Deep.OwnRows
import Derived.Tactics
import Derived.Lib.ConvBytes
import Derived.Laws.Slices
import Derived.WalkKit
import Derived.KernelRfl
import Derived.RowKit3
import Derived.Deep.LoopGhost
import Derived.Deep.QuietTactic
import Derived.BigQuiet
import Derived.WideLaws
import Derived.Deep.DeepCutAuto
import Derived.Deep.CutBlock
import Derived.Deep.RegionHeld3
import Derived.Laws.Rows
import Derived.Lib.AppendStr
import Derived.ArgAppend
import Derived.Laws.IdiomCopy
import Derived.OrdersHeld
import Derived.Laws.BitsLemmas
import Derived.RowKit
import Derived.RegionTactic
import Derived.ChangeAlike
import Derived.Outline
import Derived.LoopTactic
import Derived.WalkSpells
import Derived.WalkLawsBesides
import Derived.Lib.Hide
import Derived.StillTailTactics
import Derived.Deep.RegionWith
import Derived.Deep.RegionLaw
import Derived.Deep.DeepFit
import Derived.Deep.DeepMust
import Derived.Test.YtfaikkhnlioajaaWWords
import Derived.Test.YtfaikkhnlioajaaWLast
import Derived.Test.YtfaikkhnlioajaaWTab
import Derived.Test.YtfaikkhnlioajaaWFour
import Derived.Test.YtfaikkhnlioajaaWQPut
import Derived.Test.YtfaikkhnlioajaaWApart
import Derived.Test.YtfaikkhnlioajaaWArr
import Derived.Test.YtfaikkhnlioajaaWZeros
import Derived.Test.YtfaikkhnlioajaaWFoot
import Derived.Test.YtfaikkhnlioajaaWKept
import Derived.Test.YtfaikkhnlioajaaWShare
import Derived.Test.YtfaikkhnlioajaaWN
import Derived.Test.YtfaikkhnlioajaaWFootNe
import Derived.Test.YtfaikkhnlioajaaWAt
import Derived.Test.YtfaikkhnlioajaaWEqStruct
import Derived.Test.YtfaikkhnlioajaaWRepsOne
import Derived.Test.YtfaikkhnlioajaaWInv
import Derived.Test.YtfaikkhnlioajaaWInvWords
import Derived.Test.YtfaikkhnlioajaaWGuard
import Derived.Test.YtfaikkhnlioajaaWNEv
import Derived.Test.YtfaikkhnlioajaaWMore
import Derived.Test.YtfaikkhnlioajaaPlc
import Derived.Test.YtfaikkhnlioajaaZS
import Derived.OpenShut
import Derived.Maps.RangeWalk
import Derived.Maps.OwnOps
import Derived.Maps.OwnSet
import Derived.Lib.SmallJoins
section
namespace Go.Proofs.Ytfaikkhnlioajaa.Gd1
open Go.RowKit Go.Proofs.YtfaikkhnlioajaaW.PrintWords Go.Proofs.YtfaikkhnlioajaaW.PrintLast Go.Proofs.YtfaikkhnlioajaaW.PrintMore 
attribute [local go_sem] max2_int min2_int max_two min_two max_three min_three max_four min_four
set_option linter.unusedVariables false
set_option linter.unusedSimpArgs false
/-- w' is w, but for the blocks in S and for new blocks. -/
structure Upd (S : Nat → Prop) (w w' : World) : Prop where
  os : w'.os = w.os
  tape : w'.tape = w.tape
  output : w'.output = w.output
  size : w.heap.size ≤ w'.heap.size
  block : ∀ k, k < w.heap.size → ¬ S k → w'.heap[k]? = w.heap[k]?
theorem Upd.refl (S : Nat → Prop) (w : World) : Upd S w w := ⟨rfl, rfl, rfl, Nat.le_refl _, fun _ _ _ => rfl⟩
theorem Upd.trans {S : Nat → Prop} {a b c : World} (h : Upd S a b) (k : Upd S b c) : Upd S a c :=
  ⟨k.os.trans h.os, k.tape.trans h.tape, k.output.trans h.output, Nat.le_trans h.size k.size, fun i hi hs => (k.block i (Nat.lt_of_lt_of_le hi h.size) hs).trans (h.block i hi hs)⟩
theorem Upd.mono {S T : Nat → Prop} {a b : World} (h : Upd S a b) (hS : ∀ k, k < a.heap.size → S k → T k) : Upd T a b :=
  ⟨h.os, h.tape, h.output, h.size, fun i hi hs => h.block i hi (fun x => hs (hS i hi x))⟩
theorem Upd.alloc {S : Nat → Prop} {a w : World} (h : Upd S a w) (o : Obj) : Upd S a (w.alloc o) :=
  ⟨h.os, h.tape, h.output, Nat.le_trans h.size (by simp), fun i hi hs => (Below.heap_alloc w o i (Nat.lt_of_lt_of_le hi h.size)).trans (h.block i hi hs)⟩
theorem Upd.setCell {S : Nat → Prop} {a w : World} (h : Upd S a w) {p : Addr} (hp : S p.block ∨ a.heap.size ≤ p.block) (u : Value) : Upd S a (w.setCell p u) :=
  ⟨h.os, h.tape, h.output, by simpa [World.setCell] using h.size, fun i hi hs => (Below.heap_setCell w p u i (by rintro rfl; rcases hp with x | x; exact hs x; omega)).trans (h.block i hi hs)⟩
theorem Upd.drew {S : Nat → Prop} {a w : World} (h : Upd S a w) : Upd S a w.drew := ⟨h.os, h.tape, h.output, h.size, h.block⟩
theorem Upd.drewN {S : Nat → Prop} {a w : World} (h : Upd S a w) (n : Nat) : Upd S a (w.drewN n) := ⟨h.os, h.tape, h.output, h.size, h.block⟩
theorem Upd.below {S : Nat → Prop} {a w : World} (h : Upd S a w) {B : Nat} (hB : B ≤ a.heap.size) (hS : ∀ k, S k → B ≤ k) : Below B a w :=
  ⟨h.os, h.tape, h.output, h.size, fun i hi => h.block i (by omega) (fun x => by have := hS i x; omega)⟩
theorem Upd.cellF {S : Nat → Prop} {a w : World} (h : Upd S a w) {p : Addr} {v : Value} (hc : a.cell? p = some v) (hs : ¬ S p.block) : w.cell? p = some v :=
  (World.cell?_of_block (w := a) (h.block p.block (World.block_lt_of_cell? a p hc) hs)).trans hc
theorem Upd.to_below {S : Nat → Prop} {z a w : World} {B : Nat} (h0 : Below B z a) (h : Upd S a w) (hB : B ≤ z.heap.size) (hS : ∀ k, S k → B ≤ k) : Below B z w :=
  h0.trans (h.below (Nat.le_trans hB h0.size) hS)
theorem Upd.of_below {S : Nat → Prop} {a w : World} (h : Below a.heap.size a w) : Upd S a w := ⟨h.os, h.tape, h.output, h.size, fun i hi _ => h.block i hi⟩
theorem Upd.far {S : Nat → Prop} {a w : World} (h : Upd S a w) {g : Nat} {o : Obj} (hg : a.heap[g]? = some o) (hs : ¬ S g) : w.heap[g]? = some o := (h.block g (blk_lt hg) hs).trans hg
theorem block_of_some {w : World} {a : Addr} (h : (w.cell? a).isSome = true) : a.block < w.heap.size := by
  obtain ⟨v, hv⟩ := Option.isSome_iff_exists.1 h
  exact World.block_lt_of_cell? w a hv
theorem cellS1 (w : World) (a : Addr) (o1 : Obj) (h : (w.cell? a).isSome = true) : (w.alloc o1).cell? a = w.cell? a := by
  have hl := block_of_some h
  exact (World.cell?_alloc_lt w _ a (by first | exact hl | (simp; omega) | omega)).trans (rfl)
theorem frozenS1 (w : World) (a : Addr) (o1 : Obj) (h : (w.cell? a).isSome = true) : (w.alloc o1).frozen? a = w.frozen? a := by
  have hl := block_of_some h
  exact (World.frozen?_alloc_old w _ a (by first | exact hl | (simp; omega) | omega)).trans (rfl)
theorem cellS2 (w : World) (a : Addr) (o1 o2 : Obj) (h : (w.cell? a).isSome = true) : ((w.alloc o1).alloc o2).cell? a = w.cell? a := by
  have hl := block_of_some h
  exact (World.cell?_alloc_lt (w.alloc o1) _ a (by first | exact hl | (simp; omega) | omega)).trans (cellS1 w a o1 h)
theorem frozenS2 (w : World) (a : Addr) (o1 o2 : Obj) (h : (w.cell? a).isSome = true) : ((w.alloc o1).alloc o2).frozen? a = w.frozen? a := by
  have hl := block_of_some h
  exact (World.frozen?_alloc_old (w.alloc o1) _ a (by first | exact hl | (simp; omega) | omega)).trans (frozenS1 w a o1 h)
theorem cellS3 (w : World) (a : Addr) (o1 o2 o3 : Obj) (h : (w.cell? a).isSome = true) : (((w.alloc o1).alloc o2).alloc o3).cell? a = w.cell? a := by
  have hl := block_of_some h
  exact (World.cell?_alloc_lt ((w.alloc o1).alloc o2) _ a (by first | exact hl | (simp; omega) | omega)).trans (cellS2 w a o1 o2 h)
theorem frozenS3 (w : World) (a : Addr) (o1 o2 o3 : Obj) (h : (w.cell? a).isSome = true) : (((w.alloc o1).alloc o2).alloc o3).frozen? a = w.frozen? a := by
  have hl := block_of_some h
  exact (World.frozen?_alloc_old ((w.alloc o1).alloc o2) _ a (by first | exact hl | (simp; omega) | omega)).trans (frozenS2 w a o1 o2 h)
theorem cellS4 (w : World) (a : Addr) (o1 o2 o3 o4 : Obj) (h : (w.cell? a).isSome = true) : ((((w.alloc o1).alloc o2).alloc o3).alloc o4).cell? a = w.cell? a := by
  have hl := block_of_some h
  exact (World.cell?_alloc_lt (((w.alloc o1).alloc o2).alloc o3) _ a (by first | exact hl | (simp; omega) | omega)).trans (cellS3 w a o1 o2 o3 h)
theorem frozenS4 (w : World) (a : Addr) (o1 o2 o3 o4 : Obj) (h : (w.cell? a).isSome = true) : ((((w.alloc o1).alloc o2).alloc o3).alloc o4).frozen? a = w.frozen? a := by
  have hl := block_of_some h
  exact (World.frozen?_alloc_old (((w.alloc o1).alloc o2).alloc o3) _ a (by first | exact hl | (simp; omega) | omega)).trans (frozenS3 w a o1 o2 o3 h)
theorem cellS5 (w : World) (a : Addr) (o1 o2 o3 o4 o5 : Obj) (h : (w.cell? a).isSome = true) : (((((w.alloc o1).alloc o2).alloc o3).alloc o4).alloc o5).cell? a = w.cell? a := by
  have hl := block_of_some h
  exact (World.cell?_alloc_lt ((((w.alloc o1).alloc o2).alloc o3).alloc o4) _ a (by first | exact hl | (simp; omega) | omega)).trans (cellS4 w a o1 o2 o3 o4 h)
theorem frozenS5 (w : World) (a : Addr) (o1 o2 o3 o4 o5 : Obj) (h : (w.cell? a).isSome = true) : (((((w.alloc o1).alloc o2).alloc o3).alloc o4).alloc o5).frozen? a = w.frozen? a := by
  have hl := block_of_some h
  exact (World.frozen?_alloc_old ((((w.alloc o1).alloc o2).alloc o3).alloc o4) _ a (by first | exact hl | (simp; omega) | omega)).trans (frozenS4 w a o1 o2 o3 o4 h)
theorem cellS6 (w : World) (a : Addr) (o1 o2 o3 o4 o5 o6 : Obj) (h : (w.cell? a).isSome = true) : ((((((w.alloc o1).alloc o2).alloc o3).alloc o4).alloc o5).alloc o6).cell? a = w.cell? a := by
  have hl := block_of_some h
  exact (World.cell?_alloc_lt (((((w.alloc o1).alloc o2).alloc o3).alloc o4).alloc o5) _ a (by first | exact hl | (simp; omega) | omega)).trans (cellS5 w a o1 o2 o3 o4 o5 h)
theorem frozenS6 (w : World) (a : Addr) (o1 o2 o3 o4 o5 o6 : Obj) (h : (w.cell? a).isSome = true) : ((((((w.alloc o1).alloc o2).alloc o3).alloc o4).alloc o5).alloc o6).frozen? a = w.frozen? a := by
  have hl := block_of_some h
  exact (World.frozen?_alloc_old (((((w.alloc o1).alloc o2).alloc o3).alloc o4).alloc o5) _ a (by first | exact hl | (simp; omega) | omega)).trans (frozenS5 w a o1 o2 o3 o4 o5 h)
theorem cellS7 (w : World) (a : Addr) (o1 o2 o3 o4 o5 o6 o7 : Obj) (h : (w.cell? a).isSome = true) : (((((((w.alloc o1).alloc o2).alloc o3).alloc o4).alloc o5).alloc o6).alloc o7).cell? a = w.cell? a := by
  have hl := block_of_some h
  exact (World.cell?_alloc_lt ((((((w.alloc o1).alloc o2).alloc o3).alloc o4).alloc o5).alloc o6) _ a (by first | exact hl | (simp; omega) | omega)).trans (cellS6 w a o1 o2 o3 o4 o5 o6 h)
theorem frozenS7 (w : World) (a : Addr) (o1 o2 o3 o4 o5 o6 o7 : Obj) (h : (w.cell? a).isSome = true) : (((((((w.alloc o1).alloc o2).alloc o3).alloc o4).alloc o5).alloc o6).alloc o7).frozen? a = w.frozen? a := by
  have hl := block_of_some h
  exact (World.frozen?_alloc_old ((((((w.alloc o1).alloc o2).alloc o3).alloc o4).alloc o5).alloc o6) _ a (by first | exact hl | (simp; omega) | omega)).trans (frozenS6 w a o1 o2 o3 o4 o5 o6 h)
theorem cellS8 (w : World) (a : Addr) (o1 o2 o3 o4 o5 o6 o7 o8 : Obj) (h : (w.cell? a).isSome = true) : ((((((((w.alloc o1).alloc o2).alloc o3).alloc o4).alloc o5).alloc o6).alloc o7).alloc o8).cell? a = w.cell? a := by
  have hl := block_of_some h
  exact (World.cell?_alloc_lt (((((((w.alloc o1).alloc o2).alloc o3).alloc o4).alloc o5).alloc o6).alloc o7) _ a (by first | exact hl | (simp; omega) | omega)).trans (cellS7 w a o1 o2 o3 o4 o5 o6 o7 h)
theorem frozenS8 (w : World) (a : Addr) (o1 o2 o3 o4 o5 o6 o7 o8 : Obj) (h : (w.cell? a).isSome = true) : ((((((((w.alloc o1).alloc o2).alloc o3).alloc o4).alloc o5).alloc o6).alloc o7).alloc o8).frozen? a = w.frozen? a := by
  have hl := block_of_some h
  exact (World.frozen?_alloc_old (((((((w.alloc o1).alloc o2).alloc o3).alloc o4).alloc o5).alloc o6).alloc o7) _ a (by first | exact hl | (simp; omega) | omega)).trans (frozenS7 w a o1 o2 o3 o4 o5 o6 o7 h)
theorem ret_int {k : IntKind} {a b : Int} (h : a = b) : Ending.returned (.int k a) = .returned (.int k b) := by rw [h]
attribute [local go_sem] cellS1 frozenS1 cellS2 frozenS2 cellS3 frozenS3 cellS4 frozenS4 cellS5 frozenS5 cellS6 frozenS6 cellS7 frozenS7 cellS8 frozenS8
theorem quiet_add {P : Program} {f : FuncId} {args : Array Value} {w : World} {a n : Nat} {v : Value}
    (h : Calls P f args (w.drewN (a + n)) fun e w' => e = .returned v ∧ ∃ m, w' = (w.drewN (a + n)).drewN m) :
    Calls P f args (w.drewN (a + n)) fun e w'' => e = .returned v ∧ ∃ m, w'' = w.drewN (a + m) :=
  h.mono fun _ _ ⟨he, m, hm⟩ => ⟨he, n + m, by rw [hm, World.drewN_drewN, Nat.add_assoc]⟩
theorem quiet_add_same {P : Program} {f : FuncId} {args : Array Value} {w : World} {a n : Nat} {v : Value}
    (h : Calls P f args (w.drewN (a + n)) fun e w' => e = .returned v ∧ w' = w.drewN (a + n)) :
    Calls P f args (w.drewN (a + n)) fun e w'' => e = .returned v ∧ ∃ m, w'' = w.drewN (a + m) :=
  h.mono fun _ _ ⟨he, hm⟩ => ⟨he, n, hm⟩
theorem quiet_add_left {P : Program} {f : FuncId} {args : Array Value} {w : World} {a n : Nat} {v : Value}
    (h : Calls P f args (w.drewN (a + n)) fun e w' => e = .returned v ∧ w.drewN (a + n) = w') :
    Calls P f args (w.drewN (a + n)) fun e w'' => e = .returned v ∧ ∃ m, w'' = w.drewN (a + m) :=
  h.mono fun _ _ ⟨he, hm⟩ => ⟨he, n, hm.symm⟩
theorem quiet_left {P : Program} {f : FuncId} {args : Array Value} {w : World} {n : Nat} {v : Value}
    (h : Calls P f args (w.drewN n) fun e w' => e = .returned v ∧ w.drewN n = w') : Calls P f args (w.drewN n) fun e w'' => e = .returned v ∧ ∃ m, w'' = w.drewN m :=
  h.mono fun _ _ ⟨he, hm⟩ => ⟨he, n, hm.symm⟩
open Go.Proofs.Ytfaikkhnlioajaa.QBase Go.Proofs.Ytfaikkhnlioajaa.Sch Go.Proofs.Ytfaikkhnlioajaa.Plc
theorem wp_gen {P : Program} {c : Code} {Q : Exit → Act → World → Prop} {a : Act} {w : World} (F : World → Prop) (hF : F w) (h : ∀ W, F W → Code.wp P c Q a W) : Code.wp P c Q a w := h w hF
/-- A guard in memory. -/
def IsG (z w : World) (g bm : Nat) (n f s dl ks ee wd rh sl cp i la le : Int) : Prop := w.heap[g]? = some (.cells #[.int .i64 n, .int .i64 f, .int .i64 s, .int .i64 dl, .int .i64 ks, .int .i64 ee, .int .i64 wd, .int .i64 rh, .int .i64 sl, .int .i64 cp, .int .i64 i, .int .i64 la, .int .i64 le, .map (some bm)] 92 (0, 0)) ∧ z.heap.size ≤ g
theorem IsG.set_11 {z w : World} {g bm : Nat} {n f s dl ks ee wd rh sl cp i la le : Int} (h : IsG z w g bm n f s dl ks ee wd rh sl cp i la le) (x : Int) : IsG z (w.setCell ⟨g, 11, none⟩ (.int .i64 x)) g bm n f s dl ks ee wd rh sl cp i x le := ⟨blk_put h.1 11 _ rfl, h.2⟩
theorem IsG.set_12 {z w : World} {g bm : Nat} {n f s dl ks ee wd rh sl cp i la le : Int} (h : IsG z w g bm n f s dl ks ee wd rh sl cp i la le) (x : Int) : IsG z (w.setCell ⟨g, 12, none⟩ (.int .i64 x)) g bm n f s dl ks ee wd rh sl cp i la x := ⟨blk_put h.1 12 _ rfl, h.2⟩
theorem IsG.alloc {z w : World} {g bm : Nat} {n f s dl ks ee wd rh sl cp i la le : Int} (h : IsG z w g bm n f s dl ks ee wd rh sl cp i la le) (o : Obj) : IsG z (w.alloc o) g bm n f s dl ks ee wd rh sl cp i la le := ⟨blk_alloc h.1 o, h.2⟩
theorem IsG.drewN {z w : World} {g bm : Nat} {n f s dl ks ee wd rh sl cp i la le : Int} (h : IsG z w g bm n f s dl ks ee wd rh sl cp i la le) (m : Nat) : IsG z (w.drewN m) g bm n f s dl ks ee wd rh sl cp i la le := h
theorem IsG.drew {z w : World} {g bm : Nat} {n f s dl ks ee wd rh sl cp i la le : Int} (h : IsG z w g bm n f s dl ks ee wd rh sl cp i la le) : IsG z w.drew g bm n f s dl ks ee wd rh sl cp i la le := h
theorem IsG.far {z w : World} {g bm : Nat} {n f s dl ks ee wd rh sl cp i la le : Int} (h : IsG z w g bm n f s dl ks ee wd rh sl cp i la le) {p : Addr} (hp : g ≠ p.block) (u : Value) : IsG z (w.setCell p u) g bm n f s dl ks ee wd rh sl cp i la le := ⟨blk_far h.1 hp u, h.2⟩
theorem none_ok (g bm : Nat) (n f s dl ks ee wd rh sl cp i la le : Int) (z w : World) (hI : IsG z w g bm n f s dl ks ee wd rh sl cp i la le) : Calls Try.prog 48 #[.pointer (some ⟨g, 0, none⟩)] w fun en w' => en = .returned (.bool false) ∧ w' = w := by
  have c13 : w.cell? ⟨g, 13, none⟩ = some (.map (some bm)) := (blk_cell hI.1 13).trans rfl
  have hm := fun w => run_eql_map_nil (P := Try.prog) w 90 3 3 (some bm) Try.underlying90
  clear hI
  go_enter Try.func48, Try.ntmps48
  go_wp2
  go_ret
  exact ⟨rfl, rfl⟩
set_option maxRecDepth 100000 in
set_option maxHeartbeats 4000000 in
theorem new_yes (n f s dl ks ee wd rh sl cp i : Int) (w : World) (hk : Ok n f s dl ks ee wd rh sl cp) (i0 : 0 ≤ i) (i1 : i < n) : Calls Try.prog 11 #[.agg #[.int .i64 n, .int .i64 f, .int .i64 s, .int .i64 dl, .int .i64 ks, .int .i64 ee, .int .i64 wd, .int .i64 rh, .int .i64 sl, .int .i64 cp], .int .i64 i] w fun en w' => ∃ g bm, en = .returned (.tuple #[.pointer (some ⟨g, 0, none⟩), .int .i64 0]) ∧ IsG w w' g bm n f s dl ks ee wd rh sl cp i (-1) 0 ∧ w'.heap[bm]? = some (.map #[] 0) ∧ w.heap.size ≤ bm ∧ Below w.heap.size w w' := by
  have HK := Aside0.mk (check_in 0 n f s dl ks ee wd rh sl cp hk)
  have hmm := @run_makeMap Try.prog
  clear hk
  go_enter Try.func11, Try.ntmps11
  go_wp2_with (first | (go_at_call 46; go_loud (refine (sched_Check.calls 3 n f s dl ks ee wd rh sl cp 0 _ HK.out).mono ?_; rintro en w1 ⟨rfl, hb⟩; have hbk := blk_below (blk_new w (.cells #[.int .i64 n, .int .i64 f, .int .i64 s, .int .i64 dl, .int .i64 ks, .int .i64 ee, .int .i64 wd, .int .i64 rh, .int .i64 sl, .int .i64 cp] 23 (0, 0))) hb; have c0 : w1.cell? ⟨w.heap.size, 0, none⟩ = some (.int .i64 n) := (blk_cell hbk 0).trans rfl; have c1 : w1.cell? ⟨w.heap.size, 1, none⟩ = some (.int .i64 f) := (blk_cell hbk 1).trans rfl; have c2 : w1.cell? ⟨w.heap.size, 2, none⟩ = some (.int .i64 s) := (blk_cell hbk 2).trans rfl; have c3 : w1.cell? ⟨w.heap.size, 3, none⟩ = some (.int .i64 dl) := (blk_cell hbk 3).trans rfl; have c4 : w1.cell? ⟨w.heap.size, 4, none⟩ = some (.int .i64 ks) := (blk_cell hbk 4).trans rfl; have c5 : w1.cell? ⟨w.heap.size, 5, none⟩ = some (.int .i64 ee) := (blk_cell hbk 5).trans rfl; have c6 : w1.cell? ⟨w.heap.size, 6, none⟩ = some (.int .i64 wd) := (blk_cell hbk 6).trans rfl; have c7 : w1.cell? ⟨w.heap.size, 7, none⟩ = some (.int .i64 rh) := (blk_cell hbk 7).trans rfl; have c8 : w1.cell? ⟨w.heap.size, 8, none⟩ = some (.int .i64 sl) := (blk_cell hbk 8).trans rfl; have c9 : w1.cell? ⟨w.heap.size, 9, none⟩ = some (.int .i64 cp) := (blk_cell hbk 9).trans rfl; have HW := Aside0.mk (below_step (below_alloc (Below.refl _ _) (.cells #[.int .i64 n, .int .i64 f, .int .i64 s, .int .i64 dl, .int .i64 ks, .int .i64 ee, .int .i64 wd, .int .i64 rh, .int .i64 sl, .int .i64 cp] 23 (0, 0))) hb); clear hb)))
  go_ret2
  have hsz := HW.out.size
  exact ⟨_, w1.heap.size, rfl, ⟨by first | exact blk_new _ _ | (rw [← World.size_alloc w1 (.map #[] 0)]; exact blk_new _ _), by first | omega | (simp; omega)⟩, blk_alloc (blk_new w1 (.map #[] 0)) _, hsz, below_alloc (below_alloc HW.out _) _⟩
set_option maxRecDepth 100000 in
set_option maxHeartbeats 4000000 in
theorem new_bad (n f s dl ks ee wd rh sl cp i : Int) (w : World) (hk : ¬ Ok n f s dl ks ee wd rh sl cp) : Calls Try.prog 11 #[.agg #[.int .i64 n, .int .i64 f, .int .i64 s, .int .i64 dl, .int .i64 ks, .int .i64 ee, .int .i64 wd, .int .i64 rh, .int .i64 sl, .int .i64 cp], .int .i64 i] w fun en w' => en = .returned (.tuple #[.pointer none, .int .i64 1]) ∧ Below w.heap.size w w' := by
  have HK := Aside0.mk (check_out 0 n f s dl ks ee wd rh sl cp hk)
  clear hk
  go_enter Try.func11, Try.ntmps11
  go_wp2_with (first | (go_at_call 46; go_loud (refine (sched_Check.calls 3 n f s dl ks ee wd rh sl cp 1 _ HK.out).mono ?_; rintro en w1 ⟨rfl, hb⟩; have hbk := blk_below (blk_new w (.cells #[.int .i64 n, .int .i64 f, .int .i64 s, .int .i64 dl, .int .i64 ks, .int .i64 ee, .int .i64 wd, .int .i64 rh, .int .i64 sl, .int .i64 cp] 23 (0, 0))) hb; have c0 : w1.cell? ⟨w.heap.size, 0, none⟩ = some (.int .i64 n) := (blk_cell hbk 0).trans rfl)))
  go_ret2
  exact ⟨rfl, below_step (below_alloc (Below.refl _ _) _) hb⟩
set_option maxRecDepth 100000 in
set_option maxHeartbeats 4000000 in
theorem new_low (n f s dl ks ee wd rh sl cp i : Int) (w : World) (hk : Ok n f s dl ks ee wd rh sl cp) (h : i < 0) : Calls Try.prog 11 #[.agg #[.int .i64 n, .int .i64 f, .int .i64 s, .int .i64 dl, .int .i64 ks, .int .i64 ee, .int .i64 wd, .int .i64 rh, .int .i64 sl, .int .i64 cp], .int .i64 i] w fun en w' => en = .returned (.tuple #[.pointer none, .int .i64 1]) ∧ Below w.heap.size w w' := by
  have HK := Aside0.mk (check_in 0 n f s dl ks ee wd rh sl cp hk)
  clear hk
  go_enter Try.func11, Try.ntmps11
  go_wp2_with (first | (go_at_call 46; go_loud (refine (sched_Check.calls 3 n f s dl ks ee wd rh sl cp 0 _ HK.out).mono ?_; rintro en w1 ⟨rfl, hb⟩; have hbk := blk_below (blk_new w (.cells #[.int .i64 n, .int .i64 f, .int .i64 s, .int .i64 dl, .int .i64 ks, .int .i64 ee, .int .i64 wd, .int .i64 rh, .int .i64 sl, .int .i64 cp] 23 (0, 0))) hb; have c0 : w1.cell? ⟨w.heap.size, 0, none⟩ = some (.int .i64 n) := (blk_cell hbk 0).trans rfl)))
  go_ret2
  exact ⟨rfl, below_step (below_alloc (Below.refl _ _) _) hb⟩
set_option maxRecDepth 100000 in
set_option maxHeartbeats 4000000 in
theorem new_high (n f s dl ks ee wd rh sl cp i : Int) (w : World) (hk : Ok n f s dl ks ee wd rh sl cp) (i0 : 0 ≤ i) (h : n ≤ i) : Calls Try.prog 11 #[.agg #[.int .i64 n, .int .i64 f, .int .i64 s, .int .i64 dl, .int .i64 ks, .int .i64 ee, .int .i64 wd, .int .i64 rh, .int .i64 sl, .int .i64 cp], .int .i64 i] w fun en w' => en = .returned (.tuple #[.pointer none, .int .i64 1]) ∧ Below w.heap.size w w' := by
  have HK := Aside0.mk (check_in 0 n f s dl ks ee wd rh sl cp hk)
  clear hk
  go_enter Try.func11, Try.ntmps11
  go_wp2_with (first | (go_at_call 46; go_loud (refine (sched_Check.calls 3 n f s dl ks ee wd rh sl cp 0 _ HK.out).mono ?_; rintro en w1 ⟨rfl, hb⟩; have hbk := blk_below (blk_new w (.cells #[.int .i64 n, .int .i64 f, .int .i64 s, .int .i64 dl, .int .i64 ks, .int .i64 ee, .int .i64 wd, .int .i64 rh, .int .i64 sl, .int .i64 cp] 23 (0, 0))) hb; have c0 : w1.cell? ⟨w.heap.size, 0, none⟩ = some (.int .i64 n) := (blk_cell hbk 0).trans rfl)))
  go_ret2
  exact ⟨rfl, below_step (below_alloc (Below.refl _ _) _) hb⟩
theorem new_not (n f s dl ks ee wd rh sl cp i : Int) (w : World) (h : ¬ (Ok n f s dl ks ee wd rh sl cp ∧ 0 ≤ i ∧ i < n)) : Calls Try.prog 11 #[.agg #[.int .i64 n, .int .i64 f, .int .i64 s, .int .i64 dl, .int .i64 ks, .int .i64 ee, .int .i64 wd, .int .i64 rh, .int .i64 sl, .int .i64 cp], .int .i64 i] w fun en w' => en = .returned (.tuple #[.pointer none, .int .i64 1]) ∧ Below w.heap.size w w' := by
  by_cases hk : Ok n f s dl ks ee wd rh sl cp
  · by_cases i0 : 0 ≤ i
    · exact new_high n f s dl ks ee wd rh sl cp i w hk i0 (by by_cases h1 : i < n; exact absurd ⟨hk, i0, h1⟩ h; omega)
    · exact new_low n f s dl ks ee wd rh sl cp i w hk (by omega)
  · exact new_bad n f s dl ks ee wd rh sl cp i w hk
/-- What asking for a data frame comes to. -/
def dataF (i la le r p e : Int) : Int × Int × Int := if e ≠ 0 then (0, e, la) else if p ≠ i then (0, 5, la) else if r ≤ la ∨ r < le then (0, 10, la) else (r, 0, r)
end Go.Proofs.Ytfaikkhnlioajaa.Gd1
end
section
namespace Go.Proofs.Ytfaikkhnlioajaa.Gd2
open Go.RowKit Go.Proofs.YtfaikkhnlioajaaW.PrintWords Go.Proofs.YtfaikkhnlioajaaW.PrintLast Go.Proofs.YtfaikkhnlioajaaW.PrintMore 
attribute [local go_sem] max2_int min2_int max_two min_two max_three min_three max_four min_four
set_option linter.unusedVariables false
set_option linter.unusedSimpArgs false
open Go.Proofs.Ytfaikkhnlioajaa.QBase Go.Proofs.Ytfaikkhnlioajaa.Sch Go.Proofs.Ytfaikkhnlioajaa.Plc Go.Proofs.Ytfaikkhnlioajaa.Gd1
theorem ok_n {n f s dl ks ee wd rh sl cp : Int} (hk : Ok n f s dl ks ee wd rh sl cp) : 1 ≤ n ∧ n ≤ 8 ∧ 0 ≤ f ∧ f ≤ 8 := by unfold Ok at hk; omega
theorem rd_bd64 (l : List Int) (i : Int) (h : ∀ x ∈ l, (Lit.int .i64 x).wf = true) (h0 : 0 ≤ i) (h1 : i < l.length) : -9223372036854775808 ≤ rd l i ∧ rd l i ≤ 9223372036854775807 := by
  unfold rd
  have hi : i.toNat < l.length := by omega
  rw [List.getD_eq_getElem?_getD, List.getElem?_eq_getElem hi]
  exact bounds_i64 (h _ (List.getElem_mem hi))
end Go.Proofs.Ytfaikkhnlioajaa.Gd2
end
section
namespace Go.Proofs.Ytfaikkhnlioajaa.Gd3
open Go.RowKit Go.Proofs.YtfaikkhnlioajaaW.PrintWords Go.Proofs.YtfaikkhnlioajaaW.PrintLast Go.Proofs.YtfaikkhnlioajaaW.PrintMore 
attribute [local go_sem] max2_int min2_int max_two min_two max_three min_three max_four min_four
set_option linter.unusedVariables false
set_option linter.unusedSimpArgs false
open Go.Proofs.Ytfaikkhnlioajaa.QBase Go.Proofs.Ytfaikkhnlioajaa.Sch Go.Proofs.Ytfaikkhnlioajaa.Plc Go.Proofs.Ytfaikkhnlioajaa.Gd1 Go.Maps
theorem law3 : Keyed Try.prog 3 := int_keyed Try.underlying3
theorem zeroE (w : World) : (zeroValue 3).run Try.prog w = .ok (.int .i64 0) w := by kernel_rfl
/-- A map of numbers to numbers that lies in memory: what it says of each number. -/
def MapIs (w : World) (bm k : Nat) (M : Int → Int) : Prop := ∃ D : DataW Unit, w.ownsMap Try.prog 3 (plainElem Try.prog 3) bm k D ∧ ∀ r : Int, D.atKey (.int .i64 r) (.lit (.int .i64 0)) = .lit (.int .i64 (M r))
theorem MapIs.made {w : World} {bm : Nat} (h : w.heap[bm]? = some (.map #[] 0)) : MapIs w bm 0 (fun _ => 0) := ⟨.map [], Go.Joins.ownsMap_empty h, fun _ => rfl⟩
theorem MapIs.kept {w w' : World} {bm k : Nat} {M : Int → Int} {row : Option Nat} (h : MapIs w bm k M) (hg : w.grownBy w' row) (hne : some bm ≠ row) : MapIs w' bm k M := let ⟨D, h1, h2⟩ := h; ⟨D, h1.kept hg hne, h2⟩
theorem MapIs.drewN {w : World} {bm k : Nat} {M : Int → Int} (h : MapIs w bm k M) (m : Nat) : MapIs (w.drewN m) bm k M := h
theorem MapIs.alloc {w : World} {bm k : Nat} {M : Int → Int} (h : MapIs w bm k M) (o : Obj) : MapIs (w.alloc o) bm k M := h.kept (World.grownBy_alloc w o none) (by simp)
theorem MapIs.lt {w : World} {bm k : Nat} {M : Int → Int} (h : MapIs w bm k M) : bm < w.heap.size := let ⟨_, h1, _⟩ := h; h1.lt
theorem MapIs.ne {w : World} {bm k g : Nat} {M : Int → Int} {cs : Array Value} {t : TypeId} {fr : Nat × Nat} (h : MapIs w bm k M) (hg : w.heap[g]? = some (.cells cs t fr)) : bm ≠ g := by
  rintro rfl
  obtain ⟨D, ⟨es, clock, hb, _⟩, _⟩ := h
  rw [hb] at hg; cases hg
theorem below_grown {z w w' : World} {bm : Nat} (h : Below z.heap.size z w) (hg : w.grownBy w' (some bm)) (hb : z.heap.size ≤ bm) : Below z.heap.size z w' := h.grown hg h.size (fun j e => by cases e; exact hb)
end Go.Proofs.Ytfaikkhnlioajaa.Gd3
end
section
namespace Go.Proofs.Ytfaikkhnlioajaa.Gd4
open Go.RowKit Go.Proofs.YtfaikkhnlioajaaW.PrintWords Go.Proofs.YtfaikkhnlioajaaW.PrintLast Go.Proofs.YtfaikkhnlioajaaW.PrintMore 
attribute [local go_sem] max2_int min2_int max_two min_two max_three min_three max_four min_four
set_option linter.unusedVariables false
set_option linter.unusedSimpArgs false
open Go.Proofs.Ytfaikkhnlioajaa.QBase Go.Proofs.Ytfaikkhnlioajaa.Sch Go.Proofs.Ytfaikkhnlioajaa.Plc Go.Proofs.Ytfaikkhnlioajaa.Gd1 Go.Proofs.Ytfaikkhnlioajaa.Gd2 Go.Proofs.Ytfaikkhnlioajaa.Gd3 Go.Maps
theorem grown_alloc {w w' : World} {bm : Nat} (h : w.grownBy w' (some bm)) (o : Obj) (hb : bm < w.heap.size) : w.grownBy (w'.alloc o) (some bm) := h.andThen (World.grownBy_alloc w' o none) (fun j e => by cases e)
theorem grown_drewN {w w' : World} {bm : Nat} (h : w.grownBy w' (some bm)) (m : Nat) : w.grownBy (w'.drewN m) (some bm) := ⟨h.os, h.tape, h.output, h.size, h.block⟩
theorem grown_drew {w w' : World} {bm : Nat} (h : w.grownBy w' (some bm)) : w.grownBy w'.drew (some bm) := ⟨h.os, h.tape, h.output, h.size, h.block⟩
theorem grown_then {w w' w2 : World} {bm : Nat} (h : w.grownBy w' (some bm)) (k : w'.grownBy w2 (some bm)) : w.grownBy w2 (some bm) := h.andThen k (fun j e => by cases e; exact Or.inr rfl)
end Go.Proofs.Ytfaikkhnlioajaa.Gd4
end
