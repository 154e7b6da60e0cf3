/- Texts of this seat, one behind the other: Gd1 Gd2 Gd3 Gd4. -/
import Derived.Test.YtfaikkhnlioajaaProg
import Derived.Below
import Derived.Deep.Draws
import Derived.Deep.AppendLies
import Derived.Maps.AppendAt
import Derived.OwnWalk
import Derived.Laws.BytesArg
import Derived.Laws.MakeOwn
import Derived.Laws.OwnMore
import Derived.Deep.OwnRows
import Derived.Tactics
import Derived.Lib.ConvBytes
import Derived.Laws.Slices
import Derived.WalkKit
import Derived.KernelRfl
import Derived.RowKit3
import Derived.Deep.LoopGhost
import Derived.Deep.QuietTactic
import Derived.BigQuiet
import Derived.WideLaws
import Derived.Deep.DeepCutAuto
import Derived.Deep.CutBlock
import Derived.Deep.RegionHeld3
import Derived.Laws.Rows
import Derived.Lib.AppendStr
import Derived.ArgAppend
import Derived.Laws.IdiomCopy
import Derived.OrdersHeld
import Derived.Laws.BitsLemmas
import Derived.RowKit
import Derived.RegionTactic
import Derived.ChangeAlike
import Derived.Outline
import Derived.LoopTactic
import Derived.WalkSpells
import Derived.WalkLawsBesides
import Derived.Lib.Hide
import Derived.StillTailTactics
import Derived.Deep.RegionWith
import Derived.Deep.RegionLaw
import Derived.Deep.DeepFit
import Derived.Deep.DeepMust
import Derived.Test.YtfaikkhnlioajaaWWords
import Derived.Test.YtfaikkhnlioajaaWLast
import Derived.Test.YtfaikkhnlioajaaWTab
import Derived.Test.YtfaikkhnlioajaaWFour
import Derived.Test.YtfaikkhnlioajaaWQPut
import Derived.Test.YtfaikkhnlioajaaWApart
import Derived.Test.YtfaikkhnlioajaaWArr
import Derived.Test.YtfaikkhnlioajaaWZeros
import Derived.Test.YtfaikkhnlioajaaWFoot
import Derived.Test.YtfaikkhnlioajaaWKept
import Derived.Test.YtfaikkhnlioajaaWShare
import Derived.Test.YtfaikkhnlioajaaWN
import Derived.Test.YtfaikkhnlioajaaWFootNe
import Derived.Test.YtfaikkhnlioajaaWAt
import Derived.Test.YtfaikkhnlioajaaWEqStruct
import Derived.Test.YtfaikkhnlioajaaWRepsOne
import Derived.Test.YtfaikkhnlioajaaWInv
import Derived.Test.YtfaikkhnlioajaaWInvWords
import Derived.Test.YtfaikkhnlioajaaWGuard
import Derived.Test.YtfaikkhnlioajaaWNEv
import Derived.Test.YtfaikkhnlioajaaWMore
import Derived.Test.YtfaikkhnlioajaaPlc
import Derived.Test.YtfaikkhnlioajaaZS
import Derived.OpenShut
import Derived.Maps.RangeWalk
import Derived.Maps.OwnOps
import Derived.Maps.OwnSet
import Derived.Lib.SmallJoins
section
namespace Go.Proofs.Ytfaikkhnlioajaa.Gd1
open Go.RowKit Go.Proofs.YtfaikkhnlioajaaW.PrintWords Go.Proofs.YtfaikkhnlioajaaW.PrintLast Go.Proofs.YtfaikkhnlioajaaW.PrintMore 
attribute [local go_sem] max2_int min2_int max_two min_two max_three min_three max_four min_four
set_option linter.unusedVariables false
set_option linter.unusedSimpArgs false
/-- w' is w, but for the blocks in S and for new blocks. -/
structure Upd (S : Nat → Prop) (w w' : World) : Prop where
  os : w'.os = w.os
  tape : w'.tape = w.tape
  output : w'.output = w.output
  size : w.heap.size ≤ w'.heap.size
  block : ∀ k, k < w.heap.size → ¬ S k → w'.heap[k]? = w.heap[k]?
theorem Upd.refl (S : Nat → Prop) (w : World) : Upd S w w := ⟨rfl, rfl, rfl, Nat.le_refl _, fun _ _ _ => rfl⟩
theorem Upd.trans {S : Nat → Prop} {a b c : World} (h : Upd S a b) (k : Upd S b c) : Upd S a c :=
  ⟨k.os.trans h.os, k.tape.trans h.tape, k.output.trans h.output, Nat.le_trans h.size k.size, fun i hi hs => (k.block i (Nat.lt_of_lt_of_le hi h.size) hs).trans (h.block i hi hs)⟩
theorem Upd.mono {S T : Nat → Prop} {a b : World} (h : Upd S a b) (hS : ∀ k, k < a.heap.size → S k → T k) : Upd T a b :=
  ⟨h.os, h.tape, h.output, h.size, fun i hi hs => h.block i hi (fun x => hs (hS i hi x))⟩
theorem Upd.alloc {S : Nat → Prop} {a w : World} (h : Upd S a w) (o : Obj) : Upd S a (w.alloc o) :=
  ⟨h.os, h.tape, h.output, Nat.le_trans h.size (by simp), fun i hi hs => (Below.heap_alloc w o i (Nat.lt_of_lt_of_le hi h.size)).trans (h.block i hi hs)⟩
theorem Upd.setCell {S : Nat → Prop} {a w : World} (h : Upd S a w) {p : Addr} (hp : S p.block ∨ a.heap.size ≤ p.block) (u : Value) : Upd S a (w.setCell p u) :=
  ⟨h.os, h.tape, h.output, by simpa [World.setCell] using h.size, fun i hi hs => (Below.heap_setCell w p u i (by rintro rfl; rcases hp with x | x; exact hs x; omega)).trans (h.block i hi hs)⟩
theorem Upd.drew {S : Nat → Prop} {a w : World} (h : Upd S a w) : Upd S a w.drew := ⟨h.os, h.tape, h.output, h.size, h.block⟩
theorem Upd.drewN {S : Nat → Prop} {a w : World} (h : Upd S a w) (n : Nat) : Upd S a (w.drewN n) := ⟨h.os, h.tape, h.output, h.size, h.block⟩
theorem Upd.below {S : Nat → Prop} {a w : World} (h : Upd S a w) {B : Nat} (hB : B ≤ a.heap.size) (hS : ∀ k, S k → B ≤ k) : Below B a w :=
  ⟨h.os, h.tape, h.output, h.size, fun i hi => h.block i (by omega) (fun x => by have := hS i x; omega)⟩
theorem Upd.cellF {S : Nat → Prop} {a w : World} (h : Upd S a w) {p : Addr} {v : Value} (hc : a.cell? p = some v) (hs : ¬ S p.block) : w.cell? p = some v :=
  (World.cell?_of_block (w := a) (h.block p.block (World.block_lt_of_cell? a p hc) hs)).trans hc
theorem Upd.to_below {S : Nat → Prop} {z a w : World} {B : Nat} (h0 : Below B z a) (h : Upd S a w) (hB : B ≤ z.heap.size) (hS : ∀ k, S k → B ≤ k) : Below B z w :=
  h0.trans (h.below (Nat.le_trans hB h0.size) hS)
theorem Upd.of_below {S : Nat → Prop} {a w : World} (h : Below a.heap.size a w) : Upd S a w := ⟨h.os, h.tape, h.output, h.size, fun i hi _ => h.block i hi⟩
theorem Upd.far {S : Nat → Prop} {a w : World} (h : Upd S a w) {g : Nat} {o : Obj} (hg : a.heap[g]? = some o) (hs : ¬ S g) : w.heap[g]? = some o := (h.block g (blk_lt hg) hs).trans hg
theorem block_of_some {w : World} {a : Addr} (h : (w.cell? a).isSome = true) : a.block < w.heap.size := by
  obtain ⟨v, hv⟩ := Option.isSome_iff_exists.1 h
  exact World.block_lt_of_cell? w a hv
theorem cellS1 (w : World) (a : Addr) (o1 : Obj) (h : (w.cell? a).isSome = true) : (w.alloc o1).cell? a = w.cell? a := by
  have hl := block_of_some h
  exact (World.cell?_alloc_lt w _ a (by first | exact hl | (simp; omega) | omega)).trans (rfl)
theorem frozenS1 (w : World) (a : Addr) (o1 : Obj) (h : (w.cell? a).isSome = true) : (w.alloc o1).frozen? a = w.frozen? a := by
  have hl := block_of_some h
  exact (World.frozen?_alloc_old w _ a (by first | exact hl | (simp; omega) | omega)).trans (rfl)
theorem cellS2 (w : World) (a : Addr) (o1 o2 : Obj) (h : (w.cell? a).isSome = true) : ((w.alloc o1).alloc o2).cell? a = w.cell? a := by
  have hl := block_of_some h
  exact (World.cell?_alloc_lt (w.alloc o1) _ a (by first | exact hl | (simp; omega) | omega)).trans (cellS1 w a o1 h)
theorem frozenS2 (w : World) (a : Addr) (o1 o2 : Obj) (h : (w.cell? a).isSome = true) : ((w.alloc o1).alloc o2).frozen? a = w.frozen? a := by
  have hl := block_of_some h
  exact (World.frozen?_alloc_old (w.alloc o1) _ a (by first | exact hl | (simp; omega) | omega)).trans (frozenS1 w a o1 h)
theorem cellS3 (w : World) (a : Addr) (o1 o2 o3 : Obj) (h : (w.cell? a).isSome = true) : (((w.alloc o1).alloc o2).alloc o3).cell? a = w.cell? a := by
  have hl := block_of_some h
  exact (World.cell?_alloc_lt ((w.alloc o1).alloc o2) _ a (by first | exact hl | (simp; omega) | omega)).trans (cellS2 w a o1 o2 h)
theorem frozenS3 (w : World) (a : Addr) (o1 o2 o3 : Obj) (h : (w.cell? a).isSome = true) : (((w.alloc o1).alloc o2).alloc o3).frozen? a = w.frozen? a := by
  have hl := block_of_some h
  exact (World.frozen?_alloc_old ((w.alloc o1).alloc o2) _ a (by first | exact hl | (simp; omega) | omega)).trans (frozenS2 w a o1 o2 h)
theorem cellS4 (w : World) (a : Addr) (o1 o2 o3 o4 : Obj) (h : (w.cell? a).isSome = true) : ((((w.alloc o1).alloc o2).alloc o3).alloc o4).cell? a = w.cell? a := by
  have hl := block_of_some h
  exact (World.cell?_alloc_lt (((w.alloc o1).alloc o2).alloc o3) _ a (by first | exact hl | (simp; omega) | omega)).trans (cellS3 w a o1 o2 o3 h)
theorem frozenS4 (w : World) (a : Addr) (o1 o2 o3 o4 : Obj) (h : (w.cell? a).isSome = true) : ((((w.alloc o1).alloc o2).alloc o3).alloc o4).frozen? a = w.frozen? a := by
  have hl := block_of_some h
  exact (World.frozen?_alloc_old (((w.alloc o1).alloc o2).alloc o3) _ a (by first | exact hl | (simp; omega) | omega)).trans (frozenS3 w a o1 o2 o3 h)
theorem cellS5 (w : World) (a : Addr) (o1 o2 o3 o4 o5 : Obj) (h : (w.cell? a).isSome = true) : (((((w.alloc o1).alloc o2).alloc o3).alloc o4).alloc o5).cell? a = w.cell? a := by
  have hl := block_of_some h
  exact (World.cell?_alloc_lt ((((w.alloc o1).alloc o2).alloc o3).alloc o4) _ a (by first | exact hl | (simp; omega) | omega)).trans (cellS4 w a o1 o2 o3 o4 h)
theorem frozenS5 (w : World) (a : Addr) (o1 o2 o3 o4 o5 : Obj) (h : (w.cell? a).isSome = true) : (((((w.alloc o1).alloc o2).alloc o3).alloc o4).alloc o5).frozen? a = w.frozen? a := by
  have hl := block_of_some h
  exact (World.frozen?_alloc_old ((((w.alloc o1).alloc o2).alloc o3).alloc o4) _ a (by first | exact hl | (simp; omega) | omega)).trans (frozenS4 w a o1 o2 o3 o4 h)
theorem cellS6 (w : World) (a : Addr) (o1 o2 o3 o4 o5 o6 : Obj) (h : (w.cell? a).isSome = true) : ((((((w.alloc o1).alloc o2).alloc o3).alloc o4).alloc o5).alloc o6).cell? a = w.cell? a := by
  have hl := block_of_some h
  exact (World.cell?_alloc_lt (((((w.alloc o1).alloc o2).alloc o3).alloc o4).alloc o5) _ a (by first | exact hl | (simp; omega) | omega)).trans (cellS5 w a o1 o2 o3 o4 o5 h)
theorem frozenS6 (w : World) (a : Addr) (o1 o2 o3 o4 o5 o6 : Obj) (h : (w.cell? a).isSome = true) : ((((((w.alloc o1).alloc o2).alloc o3).alloc o4).alloc o5).alloc o6).frozen? a = w.frozen? a := by
  have hl := block_of_some h
  exact (World.frozen?_alloc_old (((((w.alloc o1).alloc o2).alloc o3).alloc o4).alloc o5) _ a (by first | exact hl | (simp; omega) | omega)).trans (frozenS5 w a o1 o2 o3 o4 o5 h)
theorem cellS7 (w : World) (a : Addr) (o1 o2 o3 o4 o5 o6 o7 : Obj) (h : (w.cell? a).isSome = true) : (((((((w.alloc o1).alloc o2).alloc o3).alloc o4).alloc o5).alloc o6).alloc o7).cell? a = w.cell? a := by
  have hl := block_of_some h
  exact (World.cell?_alloc_lt ((((((w.alloc o1).alloc o2).alloc o3).alloc o4).alloc o5).alloc o6) _ a (by first | exact hl | (simp; omega) | omega)).trans (cellS6 w a o1 o2 o3 o4 o5 o6 h)
theorem frozenS7 (w : World) (a : Addr) (o1 o2 o3 o4 o5 o6 o7 : Obj) (h : (w.cell? a).isSome = true) : (((((((w.alloc o1).alloc o2).alloc o3).alloc o4).alloc o5).alloc o6).alloc o7).frozen? a = w.frozen? a := by
  have hl := block_of_some h
  exact (World.frozen?_alloc_old ((((((w.alloc o1).alloc o2).alloc o3).alloc o4).alloc o5).alloc o6) _ a (by first | exact hl | (simp; omega) | omega)).trans (frozenS6 w a o1 o2 o3 o4 o5 o6 h)
theorem cellS8 (w : World) (a : Addr) (o1 o2 o3 o4 o5 o6 o7 o8 : Obj) (h : (w.cell? a).isSome = true) : ((((((((w.alloc o1).alloc o2).alloc o3).alloc o4).alloc o5).alloc o6).alloc o7).alloc o8).cell? a = w.cell? a := by
  have hl := block_of_some h
  exact (World.cell?_alloc_lt (((((((w.alloc o1).alloc o2).alloc o3).alloc o4).alloc o5).alloc o6).alloc o7) _ a (by first | exact hl | (simp; omega) | omega)).trans (cellS7 w a o1 o2 o3 o4 o5 o6 o7 h)
theorem frozenS8 (w : World) (a : Addr) (o1 o2 o3 o4 o5 o6 o7 o8 : Obj) (h : (w.cell? a).isSome = true) : ((((((((w.alloc o1).alloc o2).alloc o3).alloc o4).alloc o5).alloc o6).alloc o7).alloc o8).frozen? a = w.frozen? a := by
  have hl := block_of_some h
  exact (World.frozen?_alloc_old (((((((w.alloc o1).alloc o2).alloc o3).alloc o4).alloc o5).alloc o6).alloc o7) _ a (by first | exact hl | (simp; omega) | omega)).trans (frozenS7 w a o1 o2 o3 o4 o5 o6 o7 h)
theorem ret_int {k : IntKind} {a b : Int} (h : a = b) : Ending.returned (.int k a) = .returned (.int k b) := by rw [h]
attribute [local go_sem] cellS1 frozenS1 cellS2 frozenS2 cellS3 frozenS3 cellS4 frozenS4 cellS5 frozenS5 cellS6 frozenS6 cellS7 frozenS7 cellS8 frozenS8
theorem quiet_add {P : Program} {f : FuncId} {args : Array Value} {w : World} {a n : Nat} {v : Value}
    (h : Calls P f args (w.drewN (a + n)) fun e w' => e = .returned v ∧ ∃ m, w' = (w.drewN (a + n)).drewN m) :
    Calls P f args (w.drewN (a + n)) fun e w'' => e = .returned v ∧ ∃ m, w'' = w.drewN (a + m) :=
  h.mono fun _ _ ⟨he, m, hm⟩ => ⟨he, n + m, by rw [hm, World.drewN_drewN, Nat.add_assoc]⟩
theorem quiet_add_same {P : Program} {f : FuncId} {args : Array Value} {w : World} {a n : Nat} {v : Value}
    (h : Calls P f args (w.drewN (a + n)) fun e w' => e = .returned v ∧ w' = w.drewN (a + n)) :
    Calls P f args (w.drewN (a + n)) fun e w'' => e = .returned v ∧ ∃ m, w'' = w.drewN (a + m) :=
  h.mono fun _ _ ⟨he, hm⟩ => ⟨he, n, hm⟩
theorem quiet_add_left {P : Program} {f : FuncId} {args : Array Value} {w : World} {a n : Nat} {v : Value}
    (h : Calls P f args (w.drewN (a + n)) fun e w' => e = .returned v ∧ w.drewN (a + n) = w') :
    Calls P f args (w.drewN (a + n)) fun e w'' => e = .returned v ∧ ∃ m, w'' = w.drewN (a + m) :=
  h.mono fun _ _ ⟨he, hm⟩ => ⟨he, n, hm.symm⟩
theorem quiet_left {P : Program} {f : FuncId} {args : Array Value} {w : World} {n : Nat} {v : Value}
    (h : Calls P f args (w.drewN n) fun e w' => e = .returned v ∧ w.drewN n = w') : Calls P f args (w.drewN n) fun e w'' => e = .returned v ∧ ∃ m, w'' = w.drewN m :=
  h.mono fun _ _ ⟨he, hm⟩ => ⟨he, n, hm.symm⟩
open Go.Proofs.Ytfaikkhnlioajaa.QBase Go.Proofs.Ytfaikkhnlioajaa.Sch Go.Proofs.Ytfaikkhnlioajaa.Plc
theorem wp_gen {P : Program} {c : Code} {Q : Exit → Act → World → Prop} {a : Act} {w : World} (F : World → Prop) (hF : F w) (h : ∀ W, F W → Code.wp P c Q a W) : Code.wp P c Q a w := h w hF
/-- A guard in memory. -/
def IsG (z w : World) (g bm : Nat) (n f s dl ks ee wd rh sl cp i la le : Int) : Prop := w.heap[g]? = some (.cells #[.int .i64 n, .int .i64 f, .int .i64 s, .int .i64 dl, .int .i64 ks, .int .i64 ee, .int .i64 wd, .int .i64 rh, .int .i64 sl, .int .i64 cp, .int .i64 i, .int .i64 la, .int .i64 le, .map (some bm)] 92 (0, 0)) ∧ z.heap.size ≤ g
theorem IsG.set_11 {z w : World} {g bm : Nat} {n f s dl ks ee wd rh sl cp i la le : Int} (h : IsG z w g bm n f s dl ks ee wd rh sl cp i la le) (x : Int) : IsG z (w.setCell ⟨g, 11, none⟩ (.int .i64 x)) g bm n f s dl ks ee wd rh sl cp i x le := ⟨blk_put h.1 11 _ rfl, h.2⟩
theorem IsG.set_12 {z w : World} {g bm : Nat} {n f s dl ks ee wd rh sl cp i la le : Int} (h : IsG z w g bm n f s dl ks ee wd rh sl cp i la le) (x : Int) : IsG z (w.setCell ⟨g, 12, none⟩ (.int .i64 x)) g bm n f s dl ks ee wd rh sl cp i la x := ⟨blk_put h.1 12 _ rfl, h.2⟩
theorem IsG.alloc {z w : World} {g bm : Nat} {n f s dl ks ee wd rh sl cp i la le : Int} (h : IsG z w g bm n f s dl ks ee wd rh sl cp i la le) (o : Obj) : IsG z (w.alloc o) g bm n f s dl ks ee wd rh sl cp i la le := ⟨blk_alloc h.1 o, h.2⟩
theorem IsG.drewN {z w : World} {g bm : Nat} {n f s dl ks ee wd rh sl cp i la le : Int} (h : IsG z w g bm n f s dl ks ee wd rh sl cp i la le) (m : Nat) : IsG z (w.drewN m) g bm n f s dl ks ee wd rh sl cp i la le := h
theorem IsG.drew {z w : World} {g bm : Nat} {n f s dl ks ee wd rh sl cp i la le : Int} (h : IsG z w g bm n f s dl ks ee wd rh sl cp i la le) : IsG z w.drew g bm n f s dl ks ee wd rh sl cp i la le := h
theorem IsG.far {z w : World} {g bm : Nat} {n f s dl ks ee wd rh sl cp i la le : Int} (h : IsG z w g bm n f s dl ks ee wd rh sl cp i la le) {p : Addr} (hp : g ≠ p.block) (u : Value) : IsG z (w.setCell p u) g bm n f s dl ks ee wd rh sl cp i la le := ⟨blk_far h.1 hp u, h.2⟩
theorem none_ok (g bm : Nat) (n f s dl ks ee wd rh sl cp i la le : Int) (z w : World) (hI : IsG z w g bm n f s dl ks ee wd rh sl cp i la le) : Calls Try.prog 48 #[.pointer (some ⟨g, 0, none⟩)] w fun en w' => en = .returned (.bool false) ∧ w' = w := by
  have c13 : w.cell? ⟨g, 13, none⟩ = some (.map (some bm)) := (blk_cell hI.1 13).trans rfl
  have hm := fun w => run_eql_map_nil (P := Try.prog) w 90 3 3 (some bm) Try.underlying90
  clear hI
  go_enter Try.func48, Try.ntmps48
  go_wp2
  go_ret
  exact ⟨rfl, rfl⟩
theorem last_ok (g bm : Nat) (n f s dl ks ee wd rh sl cp i la le : Int) (z w : World) (hI : IsG z w g bm n f s dl ks ee wd rh sl cp i la le) : Calls Try.prog 15 #[.pointer (some ⟨g, 0, none⟩)] w fun en w' => en = .returned (.int .i64 la) ∧ w' = w := by
  have c11 : w.cell? ⟨g, 11, none⟩ = some (.int .i64 la) := (blk_cell hI.1 11).trans rfl
  have HI := Aside0.mk hI
  clear hI
  go_enter Try.func15, Try.ntmps15
  go_wp2_with (first | (go_at_call 48; go_loud (refine (none_ok g bm n f s dl ks ee wd rh sl cp i la le z w HI.out).mono ?_; rintro en w1 ⟨rfl, e1⟩; rw [e1]; clear e1)))
  go_ret
  exact ⟨rfl, rfl⟩
set_option maxRecDepth 100000 in
set_option maxHeartbeats 4000000 in
theorem new_yes (n f s dl ks ee wd rh sl cp i : Int) (w : World) (hk : Ok n f s dl ks ee wd rh sl cp) (i0 : 0 ≤ i) (i1 : i < n) : Calls Try.prog 11 #[.agg #[.int .i64 n, .int .i64 f, .int .i64 s, .int .i64 dl, .int .i64 ks, .int .i64 ee, .int .i64 wd, .int .i64 rh, .int .i64 sl, .int .i64 cp], .int .i64 i] w fun en w' => ∃ g bm, en = .returned (.tuple #[.pointer (some ⟨g, 0, none⟩), .int .i64 0]) ∧ IsG w w' g bm n f s dl ks ee wd rh sl cp i (-1) 0 ∧ w'.heap[bm]? = some (.map #[] 0) ∧ w.heap.size ≤ bm ∧ Below w.heap.size w w' := by
  have HK := Aside0.mk (check_in 0 n f s dl ks ee wd rh sl cp hk)
  have hmm := @run_makeMap Try.prog
  clear hk
  go_enter Try.func11, Try.ntmps11
  go_wp2_with (first | (go_at_call 46; go_loud (refine (sched_Check.calls 3 n f s dl ks ee wd rh sl cp 0 _ HK.out).mono ?_; rintro en w1 ⟨rfl, hb⟩; have hbk := blk_below (blk_new w (.cells #[.int .i64 n, .int .i64 f, .int .i64 s, .int .i64 dl, .int .i64 ks, .int .i64 ee, .int .i64 wd, .int .i64 rh, .int .i64 sl, .int .i64 cp] 23 (0, 0))) hb; have c0 : w1.cell? ⟨w.heap.size, 0, none⟩ = some (.int .i64 n) := (blk_cell hbk 0).trans rfl; have c1 : w1.cell? ⟨w.heap.size, 1, none⟩ = some (.int .i64 f) := (blk_cell hbk 1).trans rfl; have c2 : w1.cell? ⟨w.heap.size, 2, none⟩ = some (.int .i64 s) := (blk_cell hbk 2).trans rfl; have c3 : w1.cell? ⟨w.heap.size, 3, none⟩ = some (.int .i64 dl) := (blk_cell hbk 3).trans rfl; have c4 : w1.cell? ⟨w.heap.size, 4, none⟩ = some (.int .i64 ks) := (blk_cell hbk 4).trans rfl; have c5 : w1.cell? ⟨w.heap.size, 5, none⟩ = some (.int .i64 ee) := (blk_cell hbk 5).trans rfl; have c6 : w1.cell? ⟨w.heap.size, 6, none⟩ = some (.int .i64 wd) := (blk_cell hbk 6).trans rfl; have c7 : w1.cell? ⟨w.heap.size, 7, none⟩ = some (.int .i64 rh) := (blk_cell hbk 7).trans rfl; have c8 : w1.cell? ⟨w.heap.size, 8, none⟩ = some (.int .i64 sl) := (blk_cell hbk 8).trans rfl; have c9 : w1.cell? ⟨w.heap.size, 9, none⟩ = some (.int .i64 cp) := (blk_cell hbk 9).trans rfl; have HW := Aside0.mk (below_step (below_alloc (Below.refl _ _) (.cells #[.int .i64 n, .int .i64 f, .int .i64 s, .int .i64 dl, .int .i64 ks, .int .i64 ee, .int .i64 wd, .int .i64 rh, .int .i64 sl, .int .i64 cp] 23 (0, 0))) hb); clear hb)))
  go_ret2
  have hsz := HW.out.size
  exact ⟨_, w1.heap.size, rfl, ⟨by first | exact blk_new _ _ | (rw [← World.size_alloc w1 (.map #[] 0)]; exact blk_new _ _), by first | omega | (simp; omega)⟩, blk_alloc (blk_new w1 (.map #[] 0)) _, hsz, below_alloc (below_alloc HW.out _) _⟩
set_option maxRecDepth 100000 in
set_option maxHeartbeats 4000000 in
theorem new_bad (n f s dl ks ee wd rh sl cp i : Int) (w : World) (hk : ¬ Ok n f s dl ks ee wd rh sl cp) : Calls Try.prog 11 #[.agg #[.int .i64 n, .int .i64 f, .int .i64 s, .int .i64 dl, .int .i64 ks, .int .i64 ee, .int .i64 wd, .int .i64 rh, .int .i64 sl, .int .i64 cp], .int .i64 i] w fun en w' => en = .returned (.tuple #[.pointer none, .int .i64 1]) ∧ Below w.heap.size w w' := by
  have HK := Aside0.mk (check_out 0 n f s dl ks ee wd rh sl cp hk)
  clear hk
  go_enter Try.func11, Try.ntmps11
  go_wp2_with (first | (go_at_call 46; go_loud (refine (sched_Check.calls 3 n f s dl ks ee wd rh sl cp 1 _ HK.out).mono ?_; rintro en w1 ⟨rfl, hb⟩; have hbk := blk_below (blk_new w (.cells #[.int .i64 n, .int .i64 f, .int .i64 s, .int .i64 dl, .int .i64 ks, .int .i64 ee, .int .i64 wd, .int .i64 rh, .int .i64 sl, .int .i64 cp] 23 (0, 0))) hb; have c0 : w1.cell? ⟨w.heap.size, 0, none⟩ = some (.int .i64 n) := (blk_cell hbk 0).trans rfl)))
  go_ret2
  exact ⟨rfl, below_step (below_alloc (Below.refl _ _) _) hb⟩
set_option maxRecDepth 100000 in
set_option maxHeartbeats 4000000 in
theorem new_low (n f s dl ks ee wd rh sl cp i : Int) (w : World) (hk : Ok n f s dl ks ee wd rh sl cp) (h : i < 0) : Calls Try.prog 11 #[.agg #[.int .i64 n, .int .i64 f, .int .i64 s, .int .i64 dl, .int .i64 ks, .int .i64 ee, .int .i64 wd, .int .i64 rh, .int .i64 sl, .int .i64 cp], .int .i64 i] w fun en w' => en = .returned (.tuple #[.pointer none, .int .i64 1]) ∧ Below w.heap.size w w' := by
  have HK := Aside0.mk (check_in 0 n f s dl ks ee wd rh sl cp hk)
  clear hk
  go_enter Try.func11, Try.ntmps11
  go_wp2_with (first | (go_at_call 46; go_loud (refine (sched_Check.calls 3 n f s dl ks ee wd rh sl cp 0 _ HK.out).mono ?_; rintro en w1 ⟨rfl, hb⟩; have hbk := blk_below (blk_new w (.cells #[.int .i64 n, .int .i64 f, .int .i64 s, .int .i64 dl, .int .i64 ks, .int .i64 ee, .int .i64 wd, .int .i64 rh, .int .i64 sl, .int .i64 cp] 23 (0, 0))) hb; have c0 : w1.cell? ⟨w.heap.size, 0, none⟩ = some (.int .i64 n) := (blk_cell hbk 0).trans rfl)))
  go_ret2
  exact ⟨rfl, below_step (below_alloc (Below.refl _ _) _) hb⟩
set_option maxRecDepth 100000 in
set_option maxHeartbeats 4000000 in
theorem new_high (n f s dl ks ee wd rh sl cp i : Int) (w : World) (hk : Ok n f s dl ks ee wd rh sl cp) (i0 : 0 ≤ i) (h : n ≤ i) : Calls Try.prog 11 #[.agg #[.int .i64 n, .int .i64 f, .int .i64 s, .int .i64 dl, .int .i64 ks, .int .i64 ee, .int .i64 wd, .int .i64 rh, .int .i64 sl, .int .i64 cp], .int .i64 i] w fun en w' => en = .returned (.tuple #[.pointer none, .int .i64 1]) ∧ Below w.heap.size w w' := by
  have HK := Aside0.mk (check_in 0 n f s dl ks ee wd rh sl cp hk)
  clear hk
  go_enter Try.func11, Try.ntmps11
  go_wp2_with (first | (go_at_call 46; go_loud (refine (sched_Check.calls 3 n f s dl ks ee wd rh sl cp 0 _ HK.out).mono ?_; rintro en w1 ⟨rfl, hb⟩; have hbk := blk_below (blk_new w (.cells #[.int .i64 n, .int .i64 f, .int .i64 s, .int .i64 dl, .int .i64 ks, .int .i64 ee, .int .i64 wd, .int .i64 rh, .int .i64 sl, .int .i64 cp] 23 (0, 0))) hb; have c0 : w1.cell? ⟨w.heap.size, 0, none⟩ = some (.int .i64 n) := (blk_cell hbk 0).trans rfl)))
  go_ret2
  exact ⟨rfl, below_step (below_alloc (Below.refl _ _) _) hb⟩
theorem new_not (n f s dl ks ee wd rh sl cp i : Int) (w : World) (h : ¬ (Ok n f s dl ks ee wd rh sl cp ∧ 0 ≤ i ∧ i < n)) : Calls Try.prog 11 #[.agg #[.int .i64 n, .int .i64 f, .int .i64 s, .int .i64 dl, .int .i64 ks, .int .i64 ee, .int .i64 wd, .int .i64 rh, .int .i64 sl, .int .i64 cp], .int .i64 i] w fun en w' => en = .returned (.tuple #[.pointer none, .int .i64 1]) ∧ Below w.heap.size w w' := by
  by_cases hk : Ok n f s dl ks ee wd rh sl cp
  · by_cases i0 : 0 ≤ i
    · exact new_high n f s dl ks ee wd rh sl cp i w hk i0 (by by_cases h1 : i < n; exact absurd ⟨hk, i0, h1⟩ h; omega)
    · exact new_low n f s dl ks ee wd rh sl cp i w hk (by omega)
  · exact new_bad n f s dl ks ee wd rh sl cp i w hk
/-- What asking for a data frame comes to. -/
def dataF (i la le r p e : Int) : Int × Int × Int := if e ≠ 0 then (0, e, la) else if p ≠ i then (0, 5, la) else if r ≤ la ∨ r < le then (0, 10, la) else (r, 0, r)
set_option maxRecDepth 100000 in
set_option maxHeartbeats 4000000 in
theorem data_e (g bm : Nat) (n f s dl ks ee wd rh sl cp i la le : Int) (t r p o e : Int) (z w : World) (hI : IsG z w g bm n f s dl ks ee wd rh sl cp i la le) (hB : Below z.heap.size z w) (hp : sched_Place.f 3 n f s dl ks ee wd rh sl cp t = some (r, p, o, e)) (he : e ≠ 0) : Calls Try.prog 13 #[.pointer (some ⟨g, 0, none⟩), .int .i64 t] w fun en w' => en = .returned (.tuple #[.int .i64 0, .int .i64 e]) ∧ IsG z w' g bm n f s dl ks ee wd rh sl cp i la le ∧ Below z.heap.size z w' ∧ KeepBut w w' g none := by
  have c0 : w.cell? ⟨g, 0, none⟩ = some (.int .i64 n) := (blk_cell hI.1 0).trans rfl
  have c1 : w.cell? ⟨g, 1, none⟩ = some (.int .i64 f) := (blk_cell hI.1 1).trans rfl
  have c2 : w.cell? ⟨g, 2, none⟩ = some (.int .i64 s) := (blk_cell hI.1 2).trans rfl
  have c3 : w.cell? ⟨g, 3, none⟩ = some (.int .i64 dl) := (blk_cell hI.1 3).trans rfl
  have c4 : w.cell? ⟨g, 4, none⟩ = some (.int .i64 ks) := (blk_cell hI.1 4).trans rfl
  have c5 : w.cell? ⟨g, 5, none⟩ = some (.int .i64 ee) := (blk_cell hI.1 5).trans rfl
  have c6 : w.cell? ⟨g, 6, none⟩ = some (.int .i64 wd) := (blk_cell hI.1 6).trans rfl
  have c7 : w.cell? ⟨g, 7, none⟩ = some (.int .i64 rh) := (blk_cell hI.1 7).trans rfl
  have c8 : w.cell? ⟨g, 8, none⟩ = some (.int .i64 sl) := (blk_cell hI.1 8).trans rfl
  have c9 : w.cell? ⟨g, 9, none⟩ = some (.int .i64 cp) := (blk_cell hI.1 9).trans rfl
  have hgs : g < w.heap.size := blk_lt hI.1
  have HI := Aside0.mk hI
  have HB := Aside0.mk hB
  have HP := Aside0.mk hp
  have heb : (e != 0) = true := by simp [he]
  clear hI hB hp
  go_enter Try.func13, Try.ntmps13
  go_wp2_with (first | (go_at_call 48; go_loud (refine (none_ok g bm n f s dl ks ee wd rh sl cp i la le z w HI.out).mono ?_; rintro en w1 ⟨rfl, e1⟩; rw [e1]; clear e1)) | (go_at_call 14; go_loud (refine (sched_Place.calls 3 n f s dl ks ee wd rh sl cp t r p o e _ HP.out).mono ?_; rintro en w2 ⟨rfl, hb⟩; have I2 : Aside0 (IsG z w2 g bm n f s dl ks ee wd rh sl cp i la le) := ⟨blk_below HI.out.1 hb, HI.out.2⟩; have B2 := Aside0.mk (below_step HB.out hb); have K2 := Aside0.mk (KeepBut.of_below hb g none); have hs2 : g < w2.heap.size := Nat.lt_of_lt_of_le hgs hb.size; have k10 : w2.cell? ⟨g, 10, none⟩ = some (.int .i64 i) := (blk_cell I2.out.1 10).trans rfl; have k11 : w2.cell? ⟨g, 11, none⟩ = some (.int .i64 la) := (blk_cell I2.out.1 11).trans rfl; have k12 : w2.cell? ⟨g, 12, none⟩ = some (.int .i64 le) := (blk_cell I2.out.1 12).trans rfl; have fz11 : w2.frozen? ⟨g, 11, none⟩ = false := blk_frozen I2.out.1 11; clear hb)))
  go_ret2
  exact ⟨rfl, by repeat (first | exact I2.out | (with_reducible apply IsG.drewN) | (with_reducible apply IsG.drew) | (with_reducible apply IsG.alloc) | (with_reducible apply IsG.set_11)), by repeat (first | exact B2.out | (with_reducible apply pw_below_drewN) | (with_reducible apply below_drew1) | (with_reducible refine below_alloc ?_ _) | (refine Below.setCell (p := ⟨g, 11, none⟩) ?_ I2.out.2 _)), by repeat (first | exact K2.out | (with_reducible refine keep_drewN ?_ _) | (with_reducible refine keep_drew ?_) | (with_reducible refine keep_alloc ?_ _) | (with_reducible refine KeepBut.set_ ?_ _ _))⟩
set_option maxRecDepth 100000 in
set_option maxHeartbeats 4000000 in
theorem data_slot (g bm : Nat) (n f s dl ks ee wd rh sl cp i la le : Int) (t r p o e : Int) (z w : World) (hI : IsG z w g bm n f s dl ks ee wd rh sl cp i la le) (hB : Below z.heap.size z w) (hp : sched_Place.f 3 n f s dl ks ee wd rh sl cp t = some (r, p, o, 0)) (h : p ≠ i) : Calls Try.prog 13 #[.pointer (some ⟨g, 0, none⟩), .int .i64 t] w fun en w' => en = .returned (.tuple #[.int .i64 0, .int .i64 5]) ∧ IsG z w' g bm n f s dl ks ee wd rh sl cp i la le ∧ Below z.heap.size z w' ∧ KeepBut w w' g none := by
  have c0 : w.cell? ⟨g, 0, none⟩ = some (.int .i64 n) := (blk_cell hI.1 0).trans rfl
  have c1 : w.cell? ⟨g, 1, none⟩ = some (.int .i64 f) := (blk_cell hI.1 1).trans rfl
  have c2 : w.cell? ⟨g, 2, none⟩ = some (.int .i64 s) := (blk_cell hI.1 2).trans rfl
  have c3 : w.cell? ⟨g, 3, none⟩ = some (.int .i64 dl) := (blk_cell hI.1 3).trans rfl
  have c4 : w.cell? ⟨g, 4, none⟩ = some (.int .i64 ks) := (blk_cell hI.1 4).trans rfl
  have c5 : w.cell? ⟨g, 5, none⟩ = some (.int .i64 ee) := (blk_cell hI.1 5).trans rfl
  have c6 : w.cell? ⟨g, 6, none⟩ = some (.int .i64 wd) := (blk_cell hI.1 6).trans rfl
  have c7 : w.cell? ⟨g, 7, none⟩ = some (.int .i64 rh) := (blk_cell hI.1 7).trans rfl
  have c8 : w.cell? ⟨g, 8, none⟩ = some (.int .i64 sl) := (blk_cell hI.1 8).trans rfl
  have c9 : w.cell? ⟨g, 9, none⟩ = some (.int .i64 cp) := (blk_cell hI.1 9).trans rfl
  have hgs : g < w.heap.size := blk_lt hI.1
  have HI := Aside0.mk hI
  have HB := Aside0.mk hB
  have HP := Aside0.mk hp
  have hpb : (p != i) = true := by simp [h]
  clear hI hB hp
  go_enter Try.func13, Try.ntmps13
  go_wp2_with (first | (go_at_call 48; go_loud (refine (none_ok g bm n f s dl ks ee wd rh sl cp i la le z w HI.out).mono ?_; rintro en w1 ⟨rfl, e1⟩; rw [e1]; clear e1)) | (go_at_call 14; go_loud (refine (sched_Place.calls 3 n f s dl ks ee wd rh sl cp t r p o 0 _ HP.out).mono ?_; rintro en w2 ⟨rfl, hb⟩; have I2 : Aside0 (IsG z w2 g bm n f s dl ks ee wd rh sl cp i la le) := ⟨blk_below HI.out.1 hb, HI.out.2⟩; have B2 := Aside0.mk (below_step HB.out hb); have K2 := Aside0.mk (KeepBut.of_below hb g none); have hs2 : g < w2.heap.size := Nat.lt_of_lt_of_le hgs hb.size; have k10 : w2.cell? ⟨g, 10, none⟩ = some (.int .i64 i) := (blk_cell I2.out.1 10).trans rfl; have k11 : w2.cell? ⟨g, 11, none⟩ = some (.int .i64 la) := (blk_cell I2.out.1 11).trans rfl; have k12 : w2.cell? ⟨g, 12, none⟩ = some (.int .i64 le) := (blk_cell I2.out.1 12).trans rfl; have fz11 : w2.frozen? ⟨g, 11, none⟩ = false := blk_frozen I2.out.1 11; clear hb)))
  go_quiet (fail)
  go_wp2
  go_ret2
  exact ⟨rfl, by repeat (first | exact I2.out | (with_reducible apply IsG.drewN) | (with_reducible apply IsG.drew) | (with_reducible apply IsG.alloc) | (with_reducible apply IsG.set_11)), by repeat (first | exact B2.out | (with_reducible apply pw_below_drewN) | (with_reducible apply below_drew1) | (with_reducible refine below_alloc ?_ _) | (refine Below.setCell (p := ⟨g, 11, none⟩) ?_ I2.out.2 _)), by repeat (first | exact K2.out | (with_reducible refine keep_drewN ?_ _) | (with_reducible refine keep_drew ?_) | (with_reducible refine keep_alloc ?_ _) | (with_reducible refine KeepBut.set_ ?_ _ _))⟩
set_option maxRecDepth 100000 in
set_option maxHeartbeats 4000000 in
theorem data_old1 (g bm : Nat) (n f s dl ks ee wd rh sl cp i la le : Int) (t r p o e : Int) (z w : World) (hI : IsG z w g bm n f s dl ks ee wd rh sl cp i la le) (hB : Below z.heap.size z w) (hp : sched_Place.f 3 n f s dl ks ee wd rh sl cp t = some (r, i, o, 0)) (h1 : r ≤ la) : Calls Try.prog 13 #[.pointer (some ⟨g, 0, none⟩), .int .i64 t] w fun en w' => en = .returned (.tuple #[.int .i64 0, .int .i64 10]) ∧ IsG z w' g bm n f s dl ks ee wd rh sl cp i la le ∧ Below z.heap.size z w' ∧ KeepBut w w' g none := by
  have c0 : w.cell? ⟨g, 0, none⟩ = some (.int .i64 n) := (blk_cell hI.1 0).trans rfl
  have c1 : w.cell? ⟨g, 1, none⟩ = some (.int .i64 f) := (blk_cell hI.1 1).trans rfl
  have c2 : w.cell? ⟨g, 2, none⟩ = some (.int .i64 s) := (blk_cell hI.1 2).trans rfl
  have c3 : w.cell? ⟨g, 3, none⟩ = some (.int .i64 dl) := (blk_cell hI.1 3).trans rfl
  have c4 : w.cell? ⟨g, 4, none⟩ = some (.int .i64 ks) := (blk_cell hI.1 4).trans rfl
  have c5 : w.cell? ⟨g, 5, none⟩ = some (.int .i64 ee) := (blk_cell hI.1 5).trans rfl
  have c6 : w.cell? ⟨g, 6, none⟩ = some (.int .i64 wd) := (blk_cell hI.1 6).trans rfl
  have c7 : w.cell? ⟨g, 7, none⟩ = some (.int .i64 rh) := (blk_cell hI.1 7).trans rfl
  have c8 : w.cell? ⟨g, 8, none⟩ = some (.int .i64 sl) := (blk_cell hI.1 8).trans rfl
  have c9 : w.cell? ⟨g, 9, none⟩ = some (.int .i64 cp) := (blk_cell hI.1 9).trans rfl
  have hgs : g < w.heap.size := blk_lt hI.1
  have HI := Aside0.mk hI
  have HB := Aside0.mk hB
  have HP := Aside0.mk hp
  clear hI hB hp
  go_enter Try.func13, Try.ntmps13
  go_wp2_with (first | (go_at_call 48; go_loud (refine (none_ok g bm n f s dl ks ee wd rh sl cp i la le z w HI.out).mono ?_; rintro en w1 ⟨rfl, e1⟩; rw [e1]; clear e1)) | (go_at_call 14; go_loud (refine (sched_Place.calls 3 n f s dl ks ee wd rh sl cp t r i o 0 _ HP.out).mono ?_; rintro en w2 ⟨rfl, hb⟩; have I2 : Aside0 (IsG z w2 g bm n f s dl ks ee wd rh sl cp i la le) := ⟨blk_below HI.out.1 hb, HI.out.2⟩; have B2 := Aside0.mk (below_step HB.out hb); have K2 := Aside0.mk (KeepBut.of_below hb g none); have hs2 : g < w2.heap.size := Nat.lt_of_lt_of_le hgs hb.size; have k10 : w2.cell? ⟨g, 10, none⟩ = some (.int .i64 i) := (blk_cell I2.out.1 10).trans rfl; have k11 : w2.cell? ⟨g, 11, none⟩ = some (.int .i64 la) := (blk_cell I2.out.1 11).trans rfl; have k12 : w2.cell? ⟨g, 12, none⟩ = some (.int .i64 le) := (blk_cell I2.out.1 12).trans rfl; have fz11 : w2.frozen? ⟨g, 11, none⟩ = false := blk_frozen I2.out.1 11; clear hb)))
  go_quiet (fail)
  go_wp2
  go_quiet (fail)
  go_wp2
  go_ret2
  exact ⟨rfl, by repeat (first | exact I2.out | (with_reducible apply IsG.drewN) | (with_reducible apply IsG.drew) | (with_reducible apply IsG.alloc) | (with_reducible apply IsG.set_11)), by repeat (first | exact B2.out | (with_reducible apply pw_below_drewN) | (with_reducible apply below_drew1) | (with_reducible refine below_alloc ?_ _) | (refine Below.setCell (p := ⟨g, 11, none⟩) ?_ I2.out.2 _)), by repeat (first | exact K2.out | (with_reducible refine keep_drewN ?_ _) | (with_reducible refine keep_drew ?_) | (with_reducible refine keep_alloc ?_ _) | (with_reducible refine KeepBut.set_ ?_ _ _))⟩
set_option maxRecDepth 100000 in
set_option maxHeartbeats 4000000 in
theorem data_old2 (g bm : Nat) (n f s dl ks ee wd rh sl cp i la le : Int) (t r p o e : Int) (z w : World) (hI : IsG z w g bm n f s dl ks ee wd rh sl cp i la le) (hB : Below z.heap.size z w) (hp : sched_Place.f 3 n f s dl ks ee wd rh sl cp t = some (r, i, o, 0)) (h1 : la < r) (h2 : r < le) : Calls Try.prog 13 #[.pointer (some ⟨g, 0, none⟩), .int .i64 t] w fun en w' => en = .returned (.tuple #[.int .i64 0, .int .i64 10]) ∧ IsG z w' g bm n f s dl ks ee wd rh sl cp i la le ∧ Below z.heap.size z w' ∧ KeepBut w w' g none := by
  have c0 : w.cell? ⟨g, 0, none⟩ = some (.int .i64 n) := (blk_cell hI.1 0).trans rfl
  have c1 : w.cell? ⟨g, 1, none⟩ = some (.int .i64 f) := (blk_cell hI.1 1).trans rfl
  have c2 : w.cell? ⟨g, 2, none⟩ = some (.int .i64 s) := (blk_cell hI.1 2).trans rfl
  have c3 : w.cell? ⟨g, 3, none⟩ = some (.int .i64 dl) := (blk_cell hI.1 3).trans rfl
  have c4 : w.cell? ⟨g, 4, none⟩ = some (.int .i64 ks) := (blk_cell hI.1 4).trans rfl
  have c5 : w.cell? ⟨g, 5, none⟩ = some (.int .i64 ee) := (blk_cell hI.1 5).trans rfl
  have c6 : w.cell? ⟨g, 6, none⟩ = some (.int .i64 wd) := (blk_cell hI.1 6).trans rfl
  have c7 : w.cell? ⟨g, 7, none⟩ = some (.int .i64 rh) := (blk_cell hI.1 7).trans rfl
  have c8 : w.cell? ⟨g, 8, none⟩ = some (.int .i64 sl) := (blk_cell hI.1 8).trans rfl
  have c9 : w.cell? ⟨g, 9, none⟩ = some (.int .i64 cp) := (blk_cell hI.1 9).trans rfl
  have hgs : g < w.heap.size := blk_lt hI.1
  have HI := Aside0.mk hI
  have HB := Aside0.mk hB
  have HP := Aside0.mk hp
  clear hI hB hp
  go_enter Try.func13, Try.ntmps13
  go_wp2_with (first | (go_at_call 48; go_loud (refine (none_ok g bm n f s dl ks ee wd rh sl cp i la le z w HI.out).mono ?_; rintro en w1 ⟨rfl, e1⟩; rw [e1]; clear e1)) | (go_at_call 14; go_loud (refine (sched_Place.calls 3 n f s dl ks ee wd rh sl cp t r i o 0 _ HP.out).mono ?_; rintro en w2 ⟨rfl, hb⟩; have I2 : Aside0 (IsG z w2 g bm n f s dl ks ee wd rh sl cp i la le) := ⟨blk_below HI.out.1 hb, HI.out.2⟩; have B2 := Aside0.mk (below_step HB.out hb); have K2 := Aside0.mk (KeepBut.of_below hb g none); have hs2 : g < w2.heap.size := Nat.lt_of_lt_of_le hgs hb.size; have k10 : w2.cell? ⟨g, 10, none⟩ = some (.int .i64 i) := (blk_cell I2.out.1 10).trans rfl; have k11 : w2.cell? ⟨g, 11, none⟩ = some (.int .i64 la) := (blk_cell I2.out.1 11).trans rfl; have k12 : w2.cell? ⟨g, 12, none⟩ = some (.int .i64 le) := (blk_cell I2.out.1 12).trans rfl; have fz11 : w2.frozen? ⟨g, 11, none⟩ = false := blk_frozen I2.out.1 11; clear hb)))
  go_quiet (fail)
  go_wp2
  go_quiet (fail)
  go_wp2
  go_quiet (fail)
  go_wp2
  go_ret2
  exact ⟨rfl, by repeat (first | exact I2.out | (with_reducible apply IsG.drewN) | (with_reducible apply IsG.drew) | (with_reducible apply IsG.alloc) | (with_reducible apply IsG.set_11)), by repeat (first | exact B2.out | (with_reducible apply pw_below_drewN) | (with_reducible apply below_drew1) | (with_reducible refine below_alloc ?_ _) | (refine Below.setCell (p := ⟨g, 11, none⟩) ?_ I2.out.2 _)), by repeat (first | exact K2.out | (with_reducible refine keep_drewN ?_ _) | (with_reducible refine keep_drew ?_) | (with_reducible refine keep_alloc ?_ _) | (with_reducible refine KeepBut.set_ ?_ _ _))⟩
set_option maxRecDepth 100000 in
set_option maxHeartbeats 4000000 in
theorem data_ok (g bm : Nat) (n f s dl ks ee wd rh sl cp i la le : Int) (t r p o e : Int) (z w : World) (hI : IsG z w g bm n f s dl ks ee wd rh sl cp i la le) (hB : Below z.heap.size z w) (hp : sched_Place.f 3 n f s dl ks ee wd rh sl cp t = some (r, i, o, 0)) (h1 : la < r) (h2 : le ≤ r) : Calls Try.prog 13 #[.pointer (some ⟨g, 0, none⟩), .int .i64 t] w fun en w' => en = .returned (.tuple #[.int .i64 r, .int .i64 0]) ∧ IsG z w' g bm n f s dl ks ee wd rh sl cp i r le ∧ Below z.heap.size z w' ∧ KeepBut w w' g none := by
  have c0 : w.cell? ⟨g, 0, none⟩ = some (.int .i64 n) := (blk_cell hI.1 0).trans rfl
  have c1 : w.cell? ⟨g, 1, none⟩ = some (.int .i64 f) := (blk_cell hI.1 1).trans rfl
  have c2 : w.cell? ⟨g, 2, none⟩ = some (.int .i64 s) := (blk_cell hI.1 2).trans rfl
  have c3 : w.cell? ⟨g, 3, none⟩ = some (.int .i64 dl) := (blk_cell hI.1 3).trans rfl
  have c4 : w.cell? ⟨g, 4, none⟩ = some (.int .i64 ks) := (blk_cell hI.1 4).trans rfl
  have c5 : w.cell? ⟨g, 5, none⟩ = some (.int .i64 ee) := (blk_cell hI.1 5).trans rfl
  have c6 : w.cell? ⟨g, 6, none⟩ = some (.int .i64 wd) := (blk_cell hI.1 6).trans rfl
  have c7 : w.cell? ⟨g, 7, none⟩ = some (.int .i64 rh) := (blk_cell hI.1 7).trans rfl
  have c8 : w.cell? ⟨g, 8, none⟩ = some (.int .i64 sl) := (blk_cell hI.1 8).trans rfl
  have c9 : w.cell? ⟨g, 9, none⟩ = some (.int .i64 cp) := (blk_cell hI.1 9).trans rfl
  have hgs : g < w.heap.size := blk_lt hI.1
  have HI := Aside0.mk hI
  have HB := Aside0.mk hB
  have HP := Aside0.mk hp
  clear hI hB hp
  go_enter Try.func13, Try.ntmps13
  go_wp2_with (first | (go_at_call 48; go_loud (refine (none_ok g bm n f s dl ks ee wd rh sl cp i la le z w HI.out).mono ?_; rintro en w1 ⟨rfl, e1⟩; rw [e1]; clear e1)) | (go_at_call 14; go_loud (refine (sched_Place.calls 3 n f s dl ks ee wd rh sl cp t r i o 0 _ HP.out).mono ?_; rintro en w2 ⟨rfl, hb⟩; have I2 : Aside0 (IsG z w2 g bm n f s dl ks ee wd rh sl cp i la le) := ⟨blk_below HI.out.1 hb, HI.out.2⟩; have B2 := Aside0.mk (below_step HB.out hb); have K2 := Aside0.mk (KeepBut.of_below hb g none); have hs2 : g < w2.heap.size := Nat.lt_of_lt_of_le hgs hb.size; have k10 : w2.cell? ⟨g, 10, none⟩ = some (.int .i64 i) := (blk_cell I2.out.1 10).trans rfl; have k11 : w2.cell? ⟨g, 11, none⟩ = some (.int .i64 la) := (blk_cell I2.out.1 11).trans rfl; have k12 : w2.cell? ⟨g, 12, none⟩ = some (.int .i64 le) := (blk_cell I2.out.1 12).trans rfl; have fz11 : w2.frozen? ⟨g, 11, none⟩ = false := blk_frozen I2.out.1 11; clear hb)))
  go_quiet (fail)
  go_wp2
  go_quiet (fail)
  go_wp2
  go_quiet (fail)
  go_wp2
  go_ret2
  exact ⟨rfl, by repeat (first | exact I2.out | (with_reducible apply IsG.drewN) | (with_reducible apply IsG.drew) | (with_reducible apply IsG.alloc) | (with_reducible apply IsG.set_11)), by repeat (first | exact B2.out | (with_reducible apply pw_below_drewN) | (with_reducible apply below_drew1) | (with_reducible refine below_alloc ?_ _) | (refine Below.setCell (p := ⟨g, 11, none⟩) ?_ I2.out.2 _)), by repeat (first | exact K2.out | (with_reducible refine keep_drewN ?_ _) | (with_reducible refine keep_drew ?_) | (with_reducible refine keep_alloc ?_ _) | (with_reducible refine KeepBut.set_ ?_ _ _))⟩
theorem data_any (g bm : Nat) (n f s dl ks ee wd rh sl cp i la le : Int) (t r p o e : Int) (z w : World) (hI : IsG z w g bm n f s dl ks ee wd rh sl cp i la le) (hB : Below z.heap.size z w) (hp : sched_Place.f 3 n f s dl ks ee wd rh sl cp t = some (r, p, o, e)) (x y z1 : Int) (h : dataF i la le r p e = (x, y, z1)) : Calls Try.prog 13 #[.pointer (some ⟨g, 0, none⟩), .int .i64 t] w fun en w' => en = .returned (.tuple #[.int .i64 x, .int .i64 y]) ∧ IsG z w' g bm n f s dl ks ee wd rh sl cp i z1 le ∧ Below z.heap.size z w' ∧ KeepBut w w' g none := by
  unfold dataF at h
  by_cases he : e = 0
  · subst he
    rw [if_neg (by omega)] at h
    by_cases h1 : p = i
    · subst h1
      rw [if_neg (by omega)] at h
      by_cases h2 : r ≤ la
      · rw [if_pos (Or.inl h2)] at h
        cases h
        exact data_old1 g bm n f s dl ks ee wd rh sl cp p la le t r p o 0 z w hI hB hp h2
      · by_cases h3 : r < le
        · rw [if_pos (Or.inr h3)] at h
          cases h
          exact data_old2 g bm n f s dl ks ee wd rh sl cp p la le t r p o 0 z w hI hB hp (by omega) h3
        · rw [if_neg (by omega)] at h
          cases h
          exact data_ok g bm n f s dl ks ee wd rh sl cp p la le t r p o 0 z w hI hB hp (by omega) (by omega)
    · rw [if_pos h1] at h
      cases h
      exact data_slot g bm n f s dl ks ee wd rh sl cp i la le t r p o 0 z w hI hB hp h1
  · rw [if_pos he] at h
    cases h
    exact data_e g bm n f s dl ks ee wd rh sl cp i la le t r p o e z w hI hB hp he
end Go.Proofs.Ytfaikkhnlioajaa.Gd1
end
section
namespace Go.Proofs.Ytfaikkhnlioajaa.Gd2
open Go.RowKit Go.Proofs.YtfaikkhnlioajaaW.PrintWords Go.Proofs.YtfaikkhnlioajaaW.PrintLast Go.Proofs.YtfaikkhnlioajaaW.PrintMore 
attribute [local go_sem] max2_int min2_int max_two min_two max_three min_three max_four min_four
set_option linter.unusedVariables false
set_option linter.unusedSimpArgs false
open Go.Proofs.Ytfaikkhnlioajaa.QBase Go.Proofs.Ytfaikkhnlioajaa.Sch Go.Proofs.Ytfaikkhnlioajaa.Plc Go.Proofs.Ytfaikkhnlioajaa.Gd1
theorem ok_n {n f s dl ks ee wd rh sl cp : Int} (hk : Ok n f s dl ks ee wd rh sl cp) : 1 ≤ n ∧ n ≤ 8 ∧ 0 ≤ f ∧ f ≤ 8 := by unfold Ok at hk; omega
set_option maxRecDepth 100000 in
set_option maxHeartbeats 4000000 in
theorem awake_ok (w : World) : Calls Try.prog 12 #[] w fun en w' => en = .returned (.bool true) ∧ Below w.heap.size w w' := by
  have hk : Ok 3 0 400 1 16 400 400 1 2 8 := by unfold Ok; omega
  have hp : sched_Place.f 3 3 0 400 1 16 400 400 1 2 8 1650 = some (1, 1, 50, 0) := by rw [place_in 0 3 0 400 1 16 400 400 1 2 8 1650 hk]; rfl
  have HK := Aside0.mk hk
  have HP := Aside0.mk hp
  clear hk hp
  go_enter Try.func12, Try.ntmps12
  go_wp2_with (first | (go_at_call 47; go_loud (refine (carillonlaw19_usual.calls 3 0 400 1 16 400 400 1 2 8 _ rfl).mono ?_; rintro en w1 ⟨rfl, hb1⟩; have HB1 := Aside0.mk hb1; clear hb1)) | (go_at_call 11; go_loud (refine (new_yes 3 0 400 1 16 400 400 1 2 8 1 _ HK.out (by omega) (by omega)).mono ?_; rintro en w2 ⟨g, bm, rfl, hI2, _, _, hB2⟩; have HI2 := Aside0.mk hI2; have HB2 := Aside0.mk hB2; clear hI2 hB2)) | (go_at_call 13; go_loud (refine (data_any g bm 3 0 400 1 16 400 400 1 2 8 1 (-1) 0 1650 1 1 50 0 _ _ HI2.out HB2.out HP.out 1 0 1 rfl).mono ?_; rintro en w4 ⟨rfl, hI4, hB4, hK4⟩; have HB4 := Aside0.mk hB4; clear hI4 hB4 hK4)))
  go_ret
  exact ⟨rfl, HB1.out.trans (HB4.out.mono HB1.out.size)⟩
theorem dataF_cases (i la le r p e x y z1 : Int) (h : dataF i la le r p e = (x, y, z1)) : (y ≠ 0 ∧ la = z1) ∨ (0 = e ∧ i = p ∧ la < r ∧ le ≤ r ∧ r = x ∧ 0 = y ∧ r = z1) := by
  unfold dataF at h
  split at h
  · cases h; exact Or.inl ⟨by assumption, rfl⟩
  · split at h
    · cases h; exact Or.inl ⟨by decide, rfl⟩
    · split at h
      · cases h; exact Or.inl ⟨by decide, rfl⟩
      · cases h; exact Or.inr ⟨by omega, by omega, by omega, by omega, rfl, rfl, rfl⟩
theorem rd_bd64 (l : List Int) (i : Int) (h : ∀ x ∈ l, (Lit.int .i64 x).wf = true) (h0 : 0 ≤ i) (h1 : i < l.length) : -9223372036854775808 ≤ rd l i ∧ rd l i ≤ 9223372036854775807 := by
  unfold rd
  have hi : i.toNat < l.length := by omega
  rw [List.getD_eq_getElem?_getD, List.getElem?_eq_getElem hi]
  exact bounds_i64 (h _ (List.getElem_mem hi))
set_option maxRecDepth 100000 in
set_option maxHeartbeats 4000000 in
theorem once_bad (n f s dl ks ee wd rh sl cp i : Int) (A2 : Option Addr) (c2 : Nat) (l2 : List Int) (w : World) (h : ¬ (Ok n f s dl ks ee wd rh sl cp ∧ 0 ≤ i ∧ i < n)) : Calls Try.prog 3 #[.agg #[.int .i64 n, .int .i64 f, .int .i64 s, .int .i64 dl, .int .i64 ks, .int .i64 ee, .int .i64 wd, .int .i64 rh, .int .i64 sl, .int .i64 cp], .int .i64 i, .slice A2 l2.length c2] w fun en w' => en = .returned (.bool true) ∧ Below w.heap.size w w' := by
  have HN := Aside0.mk h
  clear h
  go_enter Try.func3, Try.ntmps3
  go_wp2_with (first | (go_at_call 11; go_loud (refine (new_not n f s dl ks ee wd rh sl cp i _ HN.out).mono ?_; rintro en w1 ⟨rfl, hb1⟩; have HB1 := Aside0.mk (below_step (below_alloc (Below.refl _ _) (.cells #[.int .i64 n, .int .i64 f, .int .i64 s, .int .i64 dl, .int .i64 ks, .int .i64 ee, .int .i64 wd, .int .i64 rh, .int .i64 sl, .int .i64 cp] 23 (0, 0))) hb1); clear hb1)) | (go_at_call 12; go_loud (refine (awake_ok _).mono ?_; rintro en w2 ⟨rfl, hb2⟩; have HB2 := Aside0.mk (below_step HB1.out hb2); clear hb2)))
  go_ret
  exact ⟨rfl, HB2.out⟩
set_option maxRecDepth 100000 in
set_option maxHeartbeats 16000000 in
theorem once_good (A2 : Option Addr) (c2 : Nat) (l2 : List Int) (n f s dl ks ee wd rh sl cp i : Int) (w : World) (hr2 : Kd.C (Kd.int .i64) w A2 l2.length l2) (hw2 : ∀ x ∈ l2, (Lit.int .i64 x).wf = true) (hl2 : l2.length ≤ maxLen)
    (hk : Ok n f s dl ks ee wd rh sl cp) (i0 : 0 ≤ i) (i1 : i < n) : Calls Try.prog 3 #[.agg #[.int .i64 n, .int .i64 f, .int .i64 s, .int .i64 dl, .int .i64 ks, .int .i64 ee, .int .i64 wd, .int .i64 rh, .int .i64 sl, .int .i64 cp], .int .i64 i, .slice A2 l2.length c2] w fun en w' => en = .returned (.bool true) ∧ Below w.heap.size w w' := by
  have hrr := ok_r hk
  obtain ⟨r0, r1, s0, s1⟩ := hrr
  have HRR := Aside0.mk (And.intro r0 (And.intro r1 (And.intro s0 s1)))
  clear r0 r1 s0 s1
  have HR2 := Aside0.mk hr2
  have HW2 := Aside0.mk hw2
  have HK := Aside0.mk hk
  unfold maxLen at hl2
  clear hr2 hw2 hk
  have HOLD : Aside0 (∀ W, Below (w.alloc (.cells #[.int .i64 n, .int .i64 f, .int .i64 s, .int .i64 dl, .int .i64 ks, .int .i64 ee, .int .i64 wd, .int .i64 rh, .int .i64 sl, .int .i64 cp] 23 (0, 0))).heap.size (w.alloc (.cells #[.int .i64 n, .int .i64 f, .int .i64 s, .int .i64 dl, .int .i64 ks, .int .i64 ee, .int .i64 wd, .int .i64 rh, .int .i64 sl, .int .i64 cp] 23 (0, 0))) W → ∀ (a : Addr) (v : Value), w.cell? a = some v → W.cell? a = some v) := ⟨fun W hB a v h => ((below_weaken (below_alloc (Below.refl w.heap.size w) (.cells #[.int .i64 n, .int .i64 f, .int .i64 s, .int .i64 dl, .int .i64 ks, .int .i64 ee, .int .i64 wd, .int .i64 rh, .int .i64 sl, .int .i64 cp] 23 (0, 0))) (by simp) hB).cell (World.block_lt_of_cell? w _ h)).trans h⟩
  go_enter Try.func3, Try.ntmps3
  go_wp2_with (first | (go_at_call 11; go_loud (refine (new_yes n f s dl ks ee wd rh sl cp i _ HK.out i0 i1).mono ?_; rintro en w1 ⟨g, bm, rfl, a1, a2, a3, a4⟩; have I1 := Aside0.mk a1; have M1 := Aside0.mk a2; have M2 := Aside0.mk a3; have B1 := Aside0.mk a4; clear a1 a2 a3 a4)))
  go_loopw [9, 10] (fun vl v wr => ∃ (k la : Int), vl = .int .i64 la ∧ v = .int .i64 k ∧ 0 ≤ k ∧ k ≤ 200 ∧ -1 ≤ la ∧ la ≤ 1048576 ∧ Aside0 (IsG (w.alloc (.cells #[.int .i64 n, .int .i64 f, .int .i64 s, .int .i64 dl, .int .i64 ks, .int .i64 ee, .int .i64 wd, .int .i64 rh, .int .i64 sl, .int .i64 cp] 23 (0, 0))) wr g bm n f s dl ks ee wd rh sl cp i la 0) ∧ Aside0 (Below (w.alloc (.cells #[.int .i64 n, .int .i64 f, .int .i64 s, .int .i64 dl, .int .i64 ks, .int .i64 ee, .int .i64 wd, .int .i64 rh, .int .i64 sl, .int .i64 cp] 23 (0, 0))).heap.size (w.alloc (.cells #[.int .i64 n, .int .i64 f, .int .i64 s, .int .i64 dl, .int .i64 ks, .int .i64 ee, .int .i64 wd, .int .i64 rh, .int .i64 sl, .int .i64 cp] 23 (0, 0))) wr)) (fun _ v _ => (200 - intOf v).toNat)
  case atStart => exact ⟨0, -1, rfl, rfl, by omega, by omega, by omega, by omega, ⟨I1.out.1, Nat.le_trans (by simp) I1.out.2⟩, B1⟩
  case round =>
    obtain ⟨k, la, rfl, rfl, k0, k1, u0, u1, I5, B5⟩ := hrel
    clear I1 B1 M1 M2
    by_cases c5 : k < (l2.length : Int)
    · have c5b : decide (k < (l2.length : Int)) = true := decide_eq_true c5
      by_cases c8 : k < 200
      · have c8b : decide (k < 200) = true := decide_eq_true c8
        obtain ⟨ad2, e2, hx2⟩ := Kd.at_int HR2.out k k0 c5
        cases e2
        have hy := rd_bd64 l2 k HW2.out k0 c5
        obtain ⟨t, hx⟩ : ∃ x, rd l2 k = x := ⟨_, rfl⟩
        rw [hx] at hx2 hy
        clear hx
        obtain ⟨y0, y1⟩ := hy
        have X2 := Aside0.mk hx2
        replace hx2 := HOLD.out _ B5.out _ _ hx2
        obtain ⟨r, p, o, e, hpl⟩ : ∃ r p o e, plc n s t = (r, p, o, e) := ⟨_, _, _, _, rfl⟩
        have hbd := plc_bd n s t r p o e hpl HRR.out.1 HRR.out.2.2.1 HRR.out.2.2.2 HRR.out.2.1
        have HP := Aside0.mk (show sched_Place.f 3 n f s dl ks ee wd rh sl cp t = some (r, p, o, e) by rw [place_in 0 n f s dl ks ee wd rh sl cp t HK.out, hpl])
        obtain ⟨x, y, z1, hd⟩ : ∃ x y z1, dataF i la 0 r p e = (x, y, z1) := ⟨_, _, _, rfl⟩
        have hcs := dataF_cases i la 0 r p e x y z1 hd
        have HD := Aside0.mk hd
        obtain ⟨b0, b1, b2, b3, b4, b5, b6⟩ := hbd
        clear hpl hd b6
        rcases hcs with ⟨hy, hz⟩ | ⟨he, hp, hla, hle, hx, hy, hz⟩
        · subst hz
          have hyb : (y != 0) = true := by simp [hy]
          clear hy
          go_wp2_with (first | (go_at_call 13; go_loud (refine (data_any g bm n f s dl ks ee wd rh sl cp i la 0 t r p o e _ _ I5.out B5.out HP.out x y la HD.out).mono ?_; rintro en w6 ⟨rfl, a1, a2, a3⟩; have cc := blk_below (blk_new w (.cells #[.int .i64 n, .int .i64 f, .int .i64 s, .int .i64 dl, .int .i64 ks, .int .i64 ee, .int .i64 wd, .int .i64 rh, .int .i64 sl, .int .i64 cp] 23 (0, 0))) a2; have c0 : w6.cell? ⟨w.heap.size, 0, none⟩ = some (.int .i64 n) := (blk_cell cc 0).trans rfl; have c1 : w6.cell? ⟨w.heap.size, 1, none⟩ = some (.int .i64 f) := (blk_cell cc 1).trans rfl; have c2 : w6.cell? ⟨w.heap.size, 2, none⟩ = some (.int .i64 s) := (blk_cell cc 2).trans rfl; have c3 : w6.cell? ⟨w.heap.size, 3, none⟩ = some (.int .i64 dl) := (blk_cell cc 3).trans rfl; have c4 : w6.cell? ⟨w.heap.size, 4, none⟩ = some (.int .i64 ks) := (blk_cell cc 4).trans rfl; have c5 : w6.cell? ⟨w.heap.size, 5, none⟩ = some (.int .i64 ee) := (blk_cell cc 5).trans rfl; have c6 : w6.cell? ⟨w.heap.size, 6, none⟩ = some (.int .i64 wd) := (blk_cell cc 6).trans rfl; have c7 : w6.cell? ⟨w.heap.size, 7, none⟩ = some (.int .i64 rh) := (blk_cell cc 7).trans rfl; have c8 : w6.cell? ⟨w.heap.size, 8, none⟩ = some (.int .i64 sl) := (blk_cell cc 8).trans rfl; have c9 : w6.cell? ⟨w.heap.size, 9, none⟩ = some (.int .i64 cp) := (blk_cell cc 9).trans rfl; clear cc; have x2_6 : w6.cell? (ad2.add k.toNat) = some (.int .i64 t) := HOLD.out _ a2 _ _ X2.out; have I6 := Aside0.mk a1; have B6 := Aside0.mk a2; clear a1 a2 a3)))
          go_roundw
          case rel => exact ⟨k + 1, la, rfl, by go_num, by omega, by omega, by omega, by omega, I6, B6⟩
          case measure => simp [intOf]; omega
        · subst he
          subst hp
          subst hx
          subst hy
          subst hz
          go_upto_region 10 with (first | (go_at_call 13; go_loud (refine (data_any g bm n f s dl ks ee wd rh sl cp i la 0 t r i o 0 _ _ I5.out B5.out HP.out r 0 r HD.out).mono ?_; rintro en w6 ⟨rfl, a1, a2, a3⟩; have cc := blk_below (blk_new w (.cells #[.int .i64 n, .int .i64 f, .int .i64 s, .int .i64 dl, .int .i64 ks, .int .i64 ee, .int .i64 wd, .int .i64 rh, .int .i64 sl, .int .i64 cp] 23 (0, 0))) a2; have c0 : w6.cell? ⟨w.heap.size, 0, none⟩ = some (.int .i64 n) := (blk_cell cc 0).trans rfl; have c1 : w6.cell? ⟨w.heap.size, 1, none⟩ = some (.int .i64 f) := (blk_cell cc 1).trans rfl; have c2 : w6.cell? ⟨w.heap.size, 2, none⟩ = some (.int .i64 s) := (blk_cell cc 2).trans rfl; have c3 : w6.cell? ⟨w.heap.size, 3, none⟩ = some (.int .i64 dl) := (blk_cell cc 3).trans rfl; have c4 : w6.cell? ⟨w.heap.size, 4, none⟩ = some (.int .i64 ks) := (blk_cell cc 4).trans rfl; have c5 : w6.cell? ⟨w.heap.size, 5, none⟩ = some (.int .i64 ee) := (blk_cell cc 5).trans rfl; have c6 : w6.cell? ⟨w.heap.size, 6, none⟩ = some (.int .i64 wd) := (blk_cell cc 6).trans rfl; have c7 : w6.cell? ⟨w.heap.size, 7, none⟩ = some (.int .i64 rh) := (blk_cell cc 7).trans rfl; have c8 : w6.cell? ⟨w.heap.size, 8, none⟩ = some (.int .i64 sl) := (blk_cell cc 8).trans rfl; have c9 : w6.cell? ⟨w.heap.size, 9, none⟩ = some (.int .i64 cp) := (blk_cell cc 9).trans rfl; clear cc; have x2_6 : w6.cell? (ad2.add k.toNat) = some (.int .i64 t) := HOLD.out _ a2 _ _ X2.out; have I6 := Aside0.mk a1; have B6 := Aside0.mk a2; clear a1 a2 a3)))
          have q1 := Aside0.mk (IsG.drew I6.out)
          have q2 := Aside0.mk (below_drew B6.out)
          have v1 : w6.heap.size ≠ w.heap.size := World.new_ne w6 _ c0
          have v2 := World.new_ne w6 _ x2_6
          go_region_held3 (fun W => W.cell? ⟨w.heap.size, 0, none⟩ = some (.int .i64 n) ∧ W.cell? ⟨w.heap.size, 1, none⟩ = some (.int .i64 f) ∧ W.cell? ⟨w.heap.size, 2, none⟩ = some (.int .i64 s) ∧ W.cell? ⟨w.heap.size, 3, none⟩ = some (.int .i64 dl) ∧ W.cell? ⟨w.heap.size, 4, none⟩ = some (.int .i64 ks) ∧ W.cell? ⟨w.heap.size, 5, none⟩ = some (.int .i64 ee) ∧ W.cell? ⟨w.heap.size, 6, none⟩ = some (.int .i64 wd) ∧ W.cell? ⟨w.heap.size, 7, none⟩ = some (.int .i64 rh) ∧ W.cell? ⟨w.heap.size, 8, none⟩ = some (.int .i64 sl) ∧ W.cell? ⟨w.heap.size, 9, none⟩ = some (.int .i64 cp) ∧ W.cell? (ad2.add k.toNat) = some (.int .i64 t)) (go_keep) (first | (go_at_call 14; go_loud (refine (sched_Place.calls 3 n f s dl ks ee wd rh sl cp t r i o 0 _ HP.out).mono ?_; rintro en w7 ⟨rfl, hb⟩; have I7 : Aside0 (IsG (w.alloc (.cells #[.int .i64 n, .int .i64 f, .int .i64 s, .int .i64 dl, .int .i64 ks, .int .i64 ee, .int .i64 wd, .int .i64 rh, .int .i64 sl, .int .i64 cp] 23 (0, 0))) w7 g bm n f s dl ks ee wd rh sl cp i r 0) := ⟨blk_below (by first | exact q1.out.1 | exact blk_alloc q1.out.1 _) hb, q1.out.2⟩; have B7 : Aside0 (Below (w.alloc (.cells #[.int .i64 n, .int .i64 f, .int .i64 s, .int .i64 dl, .int .i64 ks, .int .i64 ee, .int .i64 wd, .int .i64 rh, .int .i64 sl, .int .i64 cp] 23 (0, 0))).heap.size (w.alloc (.cells #[.int .i64 n, .int .i64 f, .int .i64 s, .int .i64 dl, .int .i64 ks, .int .i64 ee, .int .i64 wd, .int .i64 rh, .int .i64 sl, .int .i64 cp] 23 (0, 0))) w7) := ⟨below_step (by first | exact q2.out | exact below_alloc q2.out _) hb⟩; have cc := blk_below (blk_new w (.cells #[.int .i64 n, .int .i64 f, .int .i64 s, .int .i64 dl, .int .i64 ks, .int .i64 ee, .int .i64 wd, .int .i64 rh, .int .i64 sl, .int .i64 cp] 23 (0, 0))) B7.out; have d0 : w7.cell? ⟨w.heap.size, 0, none⟩ = some (.int .i64 n) := (blk_cell cc 0).trans rfl; have d1 : w7.cell? ⟨w.heap.size, 1, none⟩ = some (.int .i64 f) := (blk_cell cc 1).trans rfl; have d2 : w7.cell? ⟨w.heap.size, 2, none⟩ = some (.int .i64 s) := (blk_cell cc 2).trans rfl; have d3 : w7.cell? ⟨w.heap.size, 3, none⟩ = some (.int .i64 dl) := (blk_cell cc 3).trans rfl; have d4 : w7.cell? ⟨w.heap.size, 4, none⟩ = some (.int .i64 ks) := (blk_cell cc 4).trans rfl; have d5 : w7.cell? ⟨w.heap.size, 5, none⟩ = some (.int .i64 ee) := (blk_cell cc 5).trans rfl; have d6 : w7.cell? ⟨w.heap.size, 6, none⟩ = some (.int .i64 wd) := (blk_cell cc 6).trans rfl; have d7 : w7.cell? ⟨w.heap.size, 7, none⟩ = some (.int .i64 rh) := (blk_cell cc 7).trans rfl; have d8 : w7.cell? ⟨w.heap.size, 8, none⟩ = some (.int .i64 sl) := (blk_cell cc 8).trans rfl; have d9 : w7.cell? ⟨w.heap.size, 9, none⟩ = some (.int .i64 cp) := (blk_cell cc 9).trans rfl; clear cc; have x2_7 : w7.cell? (ad2.add k.toNat) = some (.int .i64 t) := HOLD.out _ B7.out _ _ X2.out; have v3 : w7.heap.size ≠ w.heap.size := World.new_ne w7 _ d0; have v4 := World.new_ne w7 _ x2_7; try (have nb := blk_below (blk_new w6.drew (.cells #[.int .i64 0, .int .i64 0, .int .i64 0] 33 (0, 0))) hb; have n0 : w7.cell? ⟨w6.heap.size, 0, none⟩ = some (.int .i64 0) := (blk_cell nb 0).trans rfl; have n1 : w7.cell? ⟨w6.heap.size, 1, none⟩ = some (.int .i64 0) := (blk_cell nb 1).trans rfl; have n2 : w7.cell? ⟨w6.heap.size, 2, none⟩ = some (.int .i64 0) := (blk_cell nb 2).trans rfl; have nf0 : w7.frozen? ⟨w6.heap.size, 0, none⟩ = false := blk_frozen nb 0; have nf1 : w7.frozen? ⟨w6.heap.size, 1, none⟩ = false := blk_frozen nb 1; have nf2 : w7.frozen? ⟨w6.heap.size, 2, none⟩ = false := blk_frozen nb 2; clear nb); clear hb)))
          all_goals
            have hgn : g ≠ w6.heap.size := Nat.ne_of_lt (blk_lt I6.out.1)
            have hsz := B6.out.size
            go_wp2
            go_roundw
            case rel => exact ⟨k + 1, r, rfl, by go_num, by omega, by omega, by omega, by omega, by first | exact I7 | exact ⟨IsG.alloc I7.out _⟩ | exact ⟨IsG.far (IsG.far (IsG.far I7.out hgn _) hgn _) hgn _⟩, by first | exact B7 | exact ⟨below_alloc B7.out _⟩ | exact ⟨below_set (below_set (below_set B7.out hsz) hsz) hsz⟩⟩
            case measure => simp [intOf]; omega
      · have c8b : decide (k < 200) = false := decide_eq_false c8
        go_wp2_with (first | (go_at_call 15; go_loud (refine (last_ok g bm n f s dl ks ee wd rh sl cp i la 0 _ _ I5.out).mono ?_; rintro en w7 ⟨rfl, e7⟩; rw [e7]; clear e7)) | (go_at_call 12; go_loud (refine (awake_ok _).mono ?_; rintro en w8 ⟨rfl, hb2⟩; have HB2 := Aside0.mk (below_step (below_weaken (below_alloc (Below.refl _ _) (.cells #[.int .i64 n, .int .i64 f, .int .i64 s, .int .i64 dl, .int .i64 ks, .int .i64 ee, .int .i64 wd, .int .i64 rh, .int .i64 sl, .int .i64 cp] 23 (0, 0))) (by simp) B5.out) hb2); clear hb2)))
        go_ret
        exact ⟨rfl, HB2.out⟩
    · have c5b : decide (k < (l2.length : Int)) = false := decide_eq_false c5
      go_wp2_with (first | (go_at_call 15; go_loud (refine (last_ok g bm n f s dl ks ee wd rh sl cp i la 0 _ _ I5.out).mono ?_; rintro en w7 ⟨rfl, e7⟩; rw [e7]; clear e7)) | (go_at_call 12; go_loud (refine (awake_ok _).mono ?_; rintro en w8 ⟨rfl, hb2⟩; have HB2 := Aside0.mk (below_step (below_weaken (below_alloc (Below.refl _ _) (.cells #[.int .i64 n, .int .i64 f, .int .i64 s, .int .i64 dl, .int .i64 ks, .int .i64 ee, .int .i64 wd, .int .i64 rh, .int .i64 sl, .int .i64 cp] 23 (0, 0))) (by simp) B5.out) hb2); clear hb2)))
      go_ret
      exact ⟨rfl, HB2.out⟩
theorem once_any (A2 : Option Addr) (c2 : Nat) (l2 : List Int) (n f s dl ks ee wd rh sl cp i : Int) (w : World) (hr2 : Kd.C (Kd.int .i64) w A2 l2.length l2) (hw2 : ∀ x ∈ l2, (Lit.int .i64 x).wf = true) (hl2 : l2.length ≤ maxLen) :
    Calls Try.prog 3 #[.agg #[.int .i64 n, .int .i64 f, .int .i64 s, .int .i64 dl, .int .i64 ks, .int .i64 ee, .int .i64 wd, .int .i64 rh, .int .i64 sl, .int .i64 cp], .int .i64 i, .slice A2 l2.length c2] w fun en w' => en = .returned (.bool true) ∧ Below w.heap.size w w' := by
  by_cases h : Ok n f s dl ks ee wd rh sl cp ∧ 0 ≤ i ∧ i < n
  · exact once_good A2 c2 l2 n f s dl ks ee wd rh sl cp i w hr2 hw2 hl2 h.1 h.2.1 h.2.2
  · exact once_bad n f s dl ks ee wd rh sl cp i A2 c2 l2 w h
end Go.Proofs.Ytfaikkhnlioajaa.Gd2
end
section
namespace Go.Proofs.Ytfaikkhnlioajaa.Gd3
open Go.RowKit Go.Proofs.YtfaikkhnlioajaaW.PrintWords Go.Proofs.YtfaikkhnlioajaaW.PrintLast Go.Proofs.YtfaikkhnlioajaaW.PrintMore 
attribute [local go_sem] max2_int min2_int max_two min_two max_three min_three max_four min_four
set_option linter.unusedVariables false
set_option linter.unusedSimpArgs false
open Go.Proofs.Ytfaikkhnlioajaa.QBase Go.Proofs.Ytfaikkhnlioajaa.Sch Go.Proofs.Ytfaikkhnlioajaa.Plc Go.Proofs.Ytfaikkhnlioajaa.Gd1 Go.Maps
theorem law3 : Keyed Try.prog 3 := int_keyed Try.underlying3
theorem zeroE (w : World) : (zeroValue 3).run Try.prog w = .ok (.int .i64 0) w := by kernel_rfl
/-- A map of numbers to numbers that lies in memory: what it says of each number. -/
def MapIs (w : World) (bm k : Nat) (M : Int → Int) : Prop := ∃ D : DataW Unit, w.ownsMap Try.prog 3 (plainElem Try.prog 3) bm k D ∧ ∀ r : Int, D.atKey (.int .i64 r) (.lit (.int .i64 0)) = .lit (.int .i64 (M r))
theorem MapIs.made {w : World} {bm : Nat} (h : w.heap[bm]? = some (.map #[] 0)) : MapIs w bm 0 (fun _ => 0) := ⟨.map [], Go.Joins.ownsMap_empty h, fun _ => rfl⟩
theorem MapIs.kept {w w' : World} {bm k : Nat} {M : Int → Int} {row : Option Nat} (h : MapIs w bm k M) (hg : w.grownBy w' row) (hne : some bm ≠ row) : MapIs w' bm k M := let ⟨D, h1, h2⟩ := h; ⟨D, h1.kept hg hne, h2⟩
theorem MapIs.drewN {w : World} {bm k : Nat} {M : Int → Int} (h : MapIs w bm k M) (m : Nat) : MapIs (w.drewN m) bm k M := h
theorem MapIs.alloc {w : World} {bm k : Nat} {M : Int → Int} (h : MapIs w bm k M) (o : Obj) : MapIs (w.alloc o) bm k M := h.kept (World.grownBy_alloc w o none) (by simp)
theorem MapIs.lt {w : World} {bm k : Nat} {M : Int → Int} (h : MapIs w bm k M) : bm < w.heap.size := let ⟨_, h1, _⟩ := h; h1.lt
theorem MapIs.ne {w : World} {bm k g : Nat} {M : Int → Int} {cs : Array Value} {t : TypeId} {fr : Nat × Nat} (h : MapIs w bm k M) (hg : w.heap[g]? = some (.cells cs t fr)) : bm ≠ g := by
  rintro rfl
  obtain ⟨D, ⟨es, clock, hb, _⟩, _⟩ := h
  rw [hb] at hg; cases hg
theorem MapIs.look {w : World} {bm k : Nat} {M : Int → Int} (h : MapIs w bm k M) (r : Int) (hr : (Lit.int .i64 r).wf = true) : (Instr.lookup 90 (.map (some bm)) (.int .i64 r) false).run Try.prog w = .ok (.int .i64 (M r)) w := by
  obtain ⟨D, h1, h2⟩ := h
  obtain ⟨c, hrun, hat, _⟩ := h1.lookup_int law3 Try.underlying90 Try.underlying3 (zeroE _) (keyOf_int_mk Try.underlying3 hr)
  rw [h2 r] at hat
  cases hat
  exact hrun
theorem grown_of_keep {z w w' : World} {g : Nat} (h : Below z.heap.size z w) (h' : Below z.heap.size z w') (k : KeepBut w w' g none) : w.grownBy w' (some g) :=
  ⟨h'.os.trans h.os.symm, h'.tape.trans h.tape.symm, h'.output.trans h.output.symm, k.1, fun i hi hs => k.2 i hi (fun e => hs (by rw [e])) (by simp)⟩
theorem IsG.kept {z w w' : World} {g bm : Nat} {n f s dl ks ee wd rh sl cp i la le : Int} (h : IsG z w g bm n f s dl ks ee wd rh sl cp i la le) (hg : w.grownBy w' (some bm)) (hne : bm ≠ g) : IsG z w' g bm n f s dl ks ee wd rh sl cp i la le := ⟨(hg.block g (blk_lt h.1) (by simpa using fun e => hne e.symm)).trans h.1, h.2⟩
theorem below_grown {z w w' : World} {bm : Nat} (h : Below z.heap.size z w) (hg : w.grownBy w' (some bm)) (hb : z.heap.size ≤ bm) : Below z.heap.size z w' := h.grown hg h.size (fun j e => by cases e; exact hb)
set_option maxRecDepth 100000 in
set_option maxHeartbeats 4000000 in
theorem clean_ok (g bm k : Nat) (n f s dl ks ee wd rh sl cp i la le rd : Int) (M : Int → Int) (z w : World) (hI : IsG z w g bm n f s dl ks ee wd rh sl cp i la le) (hM : MapIs w bm k M) (hM0 : ∀ r, 0 ≤ M r) (r0 : 0 ≤ rd) (r1 : rd ≤ 1048575) :
    Calls Try.prog 50 #[.pointer (some ⟨g, 0, none⟩), .int .i64 rd] w fun en w' => en = .returned (.tuple #[]) ∧ MapIs w' bm k (fun r => if rd - 64 ≤ r then M r else 0) ∧ w.grownBy w' (some bm) := by
  have c13 : w.cell? ⟨g, 13, none⟩ = some (.map (some bm)) := (blk_cell hI.1 13).trans rfl
  have hne := hM.ne hI.1
  have HI := Aside0.mk hI
  obtain ⟨D, hown, hat⟩ := hM
  have HAT := Aside0.mk hat
  have HM0 := Aside0.mk hM0
  clear hI hat hM0
  go_enter Try.func50, Try.ntmps50
  go_wp2_with (first
    | (at_range; refine wpList_range_own _ rfl _ 90 rfl 3 3 law3 Try.underlying90 _ bm k _ rfl hown ?_; intro w0 hrg0 hg0 hs0))
  go_frame
  go_loopw [4] (fun _ wr => ∃ (left : Lit → Bool) (cnt : Nat) (D : DataW Unit), wr.ranges Try.prog 3 (plainElem Try.prog 3) bm w.heap.size k D left cnt ∧ w.grownBy wr (some bm) ∧ Aside0 (∀ r : Int, D.atKey (.int .i64 r) (.lit (.int .i64 0)) = .lit (.int .i64 (if left (.int .i64 r) = true ∨ rd - 64 ≤ r then M r else 0))))
    (fun _ wr => wr.rangeLeft bm w.heap.size)
  case atStart =>
    refine ⟨_, _, D, hrg0, hg0.but _, ⟨fun r => ?_⟩⟩
    rw [HAT.out r]
    by_cases h : Maps.has D (.int .i64 r) = true ∨ rd - 64 ≤ r
    · rw [if_pos h]
    · rw [if_neg h]
      have h0 : Maps.has D (.int .i64 r) = false := by cases hh : Maps.has D (.int .i64 r) with | true => exact absurd (Or.inl hh) h | false => rfl
      have := atKey_of_not_has h0 (.lit (.int .i64 0))
      rw [HAT.out r] at this
      exact this
  case round =>
    clear hrg0 hg0 hs0 hown
    obtain ⟨left, cnt, D1, hrg, hgw, HR⟩ := hrel
    have hc13 : wr.cell? ⟨g, 13, none⟩ = some (.map (some bm)) := (blk_cell (IsG.kept HI.out hgw hne).1 13).trans rfl
    go_wp2_with (first
      | (at_next; refine wpList_next_ranges_ii _ rfl _ rfl 3 3 .i64 .i64 law3 Try.underlying3 Try.underlying3 bm w.heap.size k _ _ _ rfl hrg ?_ ?_))
    · intro _ hl0
      go_wp2
      go_end0
      refine ⟨rfl, ⟨D1, hrg.owns, fun r => ?_⟩, hgw⟩
      rw [HR.out r, hl0]
      simp
    · intro x c w1 cnt1 hwx hwc hlx hat hrg1 hlt hg1 hs1 hen
      have hgw1 := hgw.andThen hg1 (fun j hj => by cases hj; exact Or.inl (Nat.le_refl _))
      have hc13b : w1.cell? ⟨g, 13, none⟩ = some (.map (some bm)) := (blk_cell (IsG.kept HI.out hgw1 hne).1 13).trans rfl
      have HLX := Aside0.mk hlx
      have HAT1 := Aside0.mk hat
      have hcm : M x = c := by
        have h1 := HR.out x
        rw [hat, hlx, if_pos (Or.inl rfl)] at h1
        cases h1; rfl
      have hcm0 : 0 ≤ c := by rw [← hcm]; exact HM0.out x
      have HCM := Aside0.mk hcm
      have hbx := bounds_i64 hwx
      obtain ⟨bx0, bx1⟩ := hbx
      have HWX := Aside0.mk hwx
      have hrg1' := hrg1
      clear hwx hwc hlx hat hcm hc13
      by_cases h1 : x < rd - 64
      · by_cases h2 : 0 < c
        · go_wp2_with (first
            | (at_delete; refine wpList_delete_ranges _ rfl _ _ 90 3 rfl 3 law3 Try.underlying90 _ bm w.heap.size k _ _ _ rfl hrg1 _ _ rfl (keyOf_int_mk Try.underlying3 HWX.out) ?_; intro w2 cnt2 hrg2 hle hturn; go_frame))
          rw [strike_twice] at hrg2
          go_roundw
          case rel =>
            refine ⟨_, cnt2, _, hrg2, hgw1.andThen hturn.grown (fun j hj => by cases hj; exact Or.inr rfl), ⟨fun r => ?_⟩⟩
            by_cases hr : r = x
            · subst hr
              rw [atKey_del_same]
              have hsk : (Lit.int .i64 r).sameKey (.int .i64 r) = true := WideAt.sameKey_self trivial
              rw [hsk, if_neg (by simp; omega)]
            · have hsk : (Lit.int .i64 r).sameKey (.int .i64 x) = false := sameKey_ne (fun e => hr (by cases e; rfl))
              rw [atKey_del_other (fun e => hr (by cases e; rfl)), HR.out r, hsk]
              simp
          case measure => rw [hrg2.left_eq, hrg.left_eq]; omega
        · have hc0 : c = 0 := by omega
          go_wp2
          go_roundw
          case rel =>
            refine ⟨_, cnt1, _, hrg1, hgw1, ⟨fun r => ?_⟩⟩
            by_cases hr : r = x
            · subst hr
              have hsk : (Lit.int .i64 r).sameKey (.int .i64 r) = true := WideAt.sameKey_self trivial
              rw [HAT1.out, hsk, if_neg (by simp; omega), hc0]
            · have hsk : (Lit.int .i64 r).sameKey (.int .i64 x) = false := sameKey_ne (fun e => hr (by cases e; rfl))
              rw [HR.out r, hsk]
              simp
          case measure => rw [hrg1.left_eq, hrg.left_eq]; exact hlt
      · go_wp2
        go_roundw
        case rel =>
          refine ⟨_, cnt1, _, hrg1, hgw1, ⟨fun r => ?_⟩⟩
          by_cases hr : r = x
          · subst hr
            rw [HAT1.out, if_pos (Or.inr (by omega)), HCM.out]
          · have hsk : (Lit.int .i64 r).sameKey (.int .i64 x) = false := sameKey_ne (fun e => hr (by cases e; rfl))
            rw [HR.out r, hsk]
            simp
        case measure => rw [hrg1.left_eq, hrg.left_eq]; exact hlt
end Go.Proofs.Ytfaikkhnlioajaa.Gd3
end
section
namespace Go.Proofs.Ytfaikkhnlioajaa.Gd4
open Go.RowKit Go.Proofs.YtfaikkhnlioajaaW.PrintWords Go.Proofs.YtfaikkhnlioajaaW.PrintLast Go.Proofs.YtfaikkhnlioajaaW.PrintMore 
attribute [local go_sem] max2_int min2_int max_two min_two max_three min_three max_four min_four
set_option linter.unusedVariables false
set_option linter.unusedSimpArgs false
open Go.Proofs.Ytfaikkhnlioajaa.QBase Go.Proofs.Ytfaikkhnlioajaa.Sch Go.Proofs.Ytfaikkhnlioajaa.Plc Go.Proofs.Ytfaikkhnlioajaa.Gd1 Go.Proofs.Ytfaikkhnlioajaa.Gd2 Go.Proofs.Ytfaikkhnlioajaa.Gd3 Go.Maps
theorem grown_alloc {w w' : World} {bm : Nat} (h : w.grownBy w' (some bm)) (o : Obj) (hb : bm < w.heap.size) : w.grownBy (w'.alloc o) (some bm) := h.andThen (World.grownBy_alloc w' o none) (fun j e => by cases e)
theorem grown_drewN {w w' : World} {bm : Nat} (h : w.grownBy w' (some bm)) (m : Nat) : w.grownBy (w'.drewN m) (some bm) := ⟨h.os, h.tape, h.output, h.size, h.block⟩
theorem grown_drew {w w' : World} {bm : Nat} (h : w.grownBy w' (some bm)) : w.grownBy w'.drew (some bm) := ⟨h.os, h.tape, h.output, h.size, h.block⟩
theorem grown_then {w w' w2 : World} {bm : Nat} (h : w.grownBy w' (some bm)) (k : w'.grownBy w2 (some bm)) : w.grownBy w2 (some bm) := h.andThen k (fun j e => by cases e; exact Or.inr rfl)
theorem MapIs.put {w : World} {bm k : Nat} {M : Int → Int} {D : DataW Unit} (r q : Int) (h2 : ∀ x : Int, D.atKey (.int .i64 x) (.lit (.int .i64 0)) = .lit (.int .i64 (M x))) (hm : IsMap D) (h : w.ownsMap Try.prog 3 (plainElem Try.prog 3) bm k (D.put (.int .i64 r) (.lit (.int .i64 q)))) : MapIs w bm k (fun x => if x = r then q else M x) := by
  refine ⟨_, h, fun x => ?_⟩
  show _ = DataW.lit (.int .i64 (if x = r then q else M x))
  by_cases hx : x = r
  · subst hx; rw [atKey_put_same (k := .int .i64 x) hm trivial, if_pos rfl]
  · rw [atKey_put_other (fun e => hx (by cases e; rfl)), if_neg hx, h2 x]
set_option maxRecDepth 100000 in
set_option maxHeartbeats 4000000 in
theorem other_e (g bm k : Nat) (n f s dl ks ee wd rh sl cp i la le t r p o e : Int) (M : Int → Int) (z w : World) (hI : IsG z w g bm n f s dl ks ee wd rh sl cp i la le) (hB : Below z.heap.size z w) (hM : MapIs w bm k M) (hbm : z.heap.size ≤ bm) (hM0 : ∀ x, 0 ≤ M x) (hk : Ok n f s dl ks ee wd rh sl cp) (hp : sched_Place.f 3 n f s dl ks ee wd rh sl cp t = some (r, p, o, e)) (r0 : 0 ≤ r) (r1 : r ≤ 1048575) (he : e ≠ 0) : Calls Try.prog 16 #[.pointer (some ⟨g, 0, none⟩), .int .i64 t] w fun en w' => en = .returned (.int .i64 e) ∧ MapIs w' bm k M ∧ w.grownBy w' (some bm) := by
  have c0 : w.cell? ⟨g, 0, none⟩ = some (.int .i64 n) := (blk_cell hI.1 0).trans rfl
  have c1 : w.cell? ⟨g, 1, none⟩ = some (.int .i64 f) := (blk_cell hI.1 1).trans rfl
  have c2 : w.cell? ⟨g, 2, none⟩ = some (.int .i64 s) := (blk_cell hI.1 2).trans rfl
  have c3 : w.cell? ⟨g, 3, none⟩ = some (.int .i64 dl) := (blk_cell hI.1 3).trans rfl
  have c4 : w.cell? ⟨g, 4, none⟩ = some (.int .i64 ks) := (blk_cell hI.1 4).trans rfl
  have c5 : w.cell? ⟨g, 5, none⟩ = some (.int .i64 ee) := (blk_cell hI.1 5).trans rfl
  have c6 : w.cell? ⟨g, 6, none⟩ = some (.int .i64 wd) := (blk_cell hI.1 6).trans rfl
  have c7 : w.cell? ⟨g, 7, none⟩ = some (.int .i64 rh) := (blk_cell hI.1 7).trans rfl
  have c8 : w.cell? ⟨g, 8, none⟩ = some (.int .i64 sl) := (blk_cell hI.1 8).trans rfl
  have c9 : w.cell? ⟨g, 9, none⟩ = some (.int .i64 cp) := (blk_cell hI.1 9).trans rfl
  have hgs : g < w.heap.size := blk_lt hI.1
  have hne := hM.ne hI.1
  have hn : 1 ≤ n ∧ n ≤ 8 := by unfold Ok at hk; omega
  obtain ⟨n0, n1⟩ := hn
  have HI := Aside0.mk hI
  have HB := Aside0.mk hB
  have HP := Aside0.mk hp
  have HM := Aside0.mk hM
  have HM0 := Aside0.mk hM0
  clear hI hB hp hM hM0 hk
  have heb : (e != 0) = true := by simp [he]
  clear he
  go_enter Try.func16, Try.ntmps16
  go_wp2_with (first | (go_at_call 48; go_loud (refine (none_ok g bm n f s dl ks ee wd rh sl cp i la le z w HI.out).mono ?_; rintro en w1 ⟨rfl, e1⟩; rw [e1]; clear e1)) | (go_at_call 14; go_loud (refine (sched_Place.calls 3 n f s dl ks ee wd rh sl cp t r p o e _ HP.out).mono ?_; rintro en w2 ⟨rfl, hb⟩; have I2 : Aside0 (IsG z w2 g bm n f s dl ks ee wd rh sl cp i la le) := ⟨blk_below HI.out.1 hb, HI.out.2⟩; have B2 := Aside0.mk (below_step HB.out hb); have G2 : Aside0 (w.grownBy w2 (some bm)) := ⟨⟨hb.os, hb.tape, hb.output, hb.size, fun i hi _ => hb.block i hi⟩⟩; have M2 : Aside0 (MapIs w2 bm k M) := ⟨HM.out.kept (row := none) ⟨hb.os, hb.tape, hb.output, hb.size, fun i hi _ => hb.block i hi⟩ (by simp)⟩; have hs2 : g < w2.heap.size := Nat.lt_of_lt_of_le hgs hb.size; have k0 : w2.cell? ⟨g, 0, none⟩ = some (.int .i64 n) := (blk_cell I2.out.1 0).trans rfl; have k13 : w2.cell? ⟨g, 13, none⟩ = some (.map (some bm)) := (blk_cell I2.out.1 13).trans rfl; clear hb)))
  go_ret
  exact ⟨rfl, M2.out.alloc _, grown_alloc G2.out _ HM.out.lt⟩
set_option maxRecDepth 100000 in
set_option maxHeartbeats 4000000 in
theorem other_full (g bm k : Nat) (n f s dl ks ee wd rh sl cp i la le t r p o e : Int) (M : Int → Int) (z w : World) (hI : IsG z w g bm n f s dl ks ee wd rh sl cp i la le) (hB : Below z.heap.size z w) (hM : MapIs w bm k M) (hbm : z.heap.size ≤ bm) (hM0 : ∀ x, 0 ≤ M x) (hk : Ok n f s dl ks ee wd rh sl cp) (hp : sched_Place.f 3 n f s dl ks ee wd rh sl cp t = some (r, p, o, 0)) (r0 : 0 ≤ r) (r1 : r ≤ 1048575) (hf : 4 * n ≤ M r) : Calls Try.prog 16 #[.pointer (some ⟨g, 0, none⟩), .int .i64 t] w fun en w' => en = .returned (.int .i64 9) ∧ MapIs w' bm k M ∧ w.grownBy w' (some bm) := by
  have c0 : w.cell? ⟨g, 0, none⟩ = some (.int .i64 n) := (blk_cell hI.1 0).trans rfl
  have c1 : w.cell? ⟨g, 1, none⟩ = some (.int .i64 f) := (blk_cell hI.1 1).trans rfl
  have c2 : w.cell? ⟨g, 2, none⟩ = some (.int .i64 s) := (blk_cell hI.1 2).trans rfl
  have c3 : w.cell? ⟨g, 3, none⟩ = some (.int .i64 dl) := (blk_cell hI.1 3).trans rfl
  have c4 : w.cell? ⟨g, 4, none⟩ = some (.int .i64 ks) := (blk_cell hI.1 4).trans rfl
  have c5 : w.cell? ⟨g, 5, none⟩ = some (.int .i64 ee) := (blk_cell hI.1 5).trans rfl
  have c6 : w.cell? ⟨g, 6, none⟩ = some (.int .i64 wd) := (blk_cell hI.1 6).trans rfl
  have c7 : w.cell? ⟨g, 7, none⟩ = some (.int .i64 rh) := (blk_cell hI.1 7).trans rfl
  have c8 : w.cell? ⟨g, 8, none⟩ = some (.int .i64 sl) := (blk_cell hI.1 8).trans rfl
  have c9 : w.cell? ⟨g, 9, none⟩ = some (.int .i64 cp) := (blk_cell hI.1 9).trans rfl
  have hgs : g < w.heap.size := blk_lt hI.1
  have hne := hM.ne hI.1
  have hn : 1 ≤ n ∧ n ≤ 8 := by unfold Ok at hk; omega
  obtain ⟨n0, n1⟩ := hn
  have HI := Aside0.mk hI
  have HB := Aside0.mk hB
  have HP := Aside0.mk hp
  have HM := Aside0.mk hM
  have HM0 := Aside0.mk hM0
  clear hI hB hp hM hM0 hk
  have HRW : Aside0 ((Lit.int .i64 r).wf = true) := ⟨WalkArith.wf_i64 (by omega)⟩
  obtain ⟨q, hq⟩ : ∃ q, M r = q := ⟨_, rfl⟩
  have QL : Aside0 (∀ W, MapIs W bm k M → (Instr.lookup 90 (.map (some bm)) (.int .i64 r) false).run Try.prog W = .ok (.int .i64 q) W) := ⟨fun W h => by rw [h.look r HRW.out, hq]⟩
  rw [hq] at hf
  have v1 : IntKind.i64.wrap (4 * n) = 4 * n := by rw [IntKind.wrap_i64]; omega
  have v2 : decide (4 * n ≤ q) = true := decide_eq_true hf
  clear hq
  go_enter Try.func16, Try.ntmps16
  go_upto_region 6 with (first | (go_at_call 48; go_loud (refine (none_ok g bm n f s dl ks ee wd rh sl cp i la le z w HI.out).mono ?_; rintro en w1 ⟨rfl, e1⟩; rw [e1]; clear e1)) | (go_at_call 14; go_loud (refine (sched_Place.calls 3 n f s dl ks ee wd rh sl cp t r p o 0 _ HP.out).mono ?_; rintro en w2 ⟨rfl, hb⟩; have I2 : Aside0 (IsG z w2 g bm n f s dl ks ee wd rh sl cp i la le) := ⟨blk_below HI.out.1 hb, HI.out.2⟩; have B2 := Aside0.mk (below_step HB.out hb); have G2 : Aside0 (w.grownBy w2 (some bm)) := ⟨⟨hb.os, hb.tape, hb.output, hb.size, fun i hi _ => hb.block i hi⟩⟩; have M2 : Aside0 (MapIs w2 bm k M) := ⟨HM.out.kept (row := none) ⟨hb.os, hb.tape, hb.output, hb.size, fun i hi _ => hb.block i hi⟩ (by simp)⟩; have hs2 : g < w2.heap.size := Nat.lt_of_lt_of_le hgs hb.size; have k0 : w2.cell? ⟨g, 0, none⟩ = some (.int .i64 n) := (blk_cell I2.out.1 0).trans rfl; have k13 : w2.cell? ⟨g, 13, none⟩ = some (.map (some bm)) := (blk_cell I2.out.1 13).trans rfl; have hl : ∀ m, (Instr.lookup 90 (.map (some bm)) (.int .i64 r) false).run Try.prog ((w2.alloc (.cells #[.int .i64 r, .int .i64 p, .int .i64 o] 33)).drewN m) = .ok (.int .i64 q) ((w2.alloc (.cells #[.int .i64 r, .int .i64 p, .int .i64 o] 33)).drewN m) := (fun m => QL.out _ ((M2.out.alloc (.cells #[.int .i64 r, .int .i64 p, .int .i64 o] 33)).drewN m)); clear hb)))
  go_quiet (fail)
  go_wp2
  go_ret
  exact ⟨rfl, (M2.out.alloc _).drewN _, grown_drewN (grown_alloc G2.out _ HM.out.lt) _⟩
set_option maxRecDepth 100000 in
set_option maxHeartbeats 4000000 in
theorem other_ok (g bm k : Nat) (n f s dl ks ee wd rh sl cp i la le t r p o e : Int) (M : Int → Int) (z w : World) (hI : IsG z w g bm n f s dl ks ee wd rh sl cp i la le) (hB : Below z.heap.size z w) (hM : MapIs w bm k M) (hbm : z.heap.size ≤ bm) (hM0 : ∀ x, 0 ≤ M x) (hk : Ok n f s dl ks ee wd rh sl cp) (hp : sched_Place.f 3 n f s dl ks ee wd rh sl cp t = some (r, p, o, 0)) (r0 : 0 ≤ r) (r1 : r ≤ 1048575) (hf : M r < 4 * n) (hkk : k ≤ 100000) : Calls Try.prog 16 #[.pointer (some ⟨g, 0, none⟩), .int .i64 t] w fun en w' => en = .returned (.int .i64 0) ∧ MapIs w' bm (k + 1) (fun x => if r - 64 ≤ x then (if x = r then M r + 1 else M x) else 0) ∧ w.grownBy w' (some bm) := by
  have c0 : w.cell? ⟨g, 0, none⟩ = some (.int .i64 n) := (blk_cell hI.1 0).trans rfl
  have c1 : w.cell? ⟨g, 1, none⟩ = some (.int .i64 f) := (blk_cell hI.1 1).trans rfl
  have c2 : w.cell? ⟨g, 2, none⟩ = some (.int .i64 s) := (blk_cell hI.1 2).trans rfl
  have c3 : w.cell? ⟨g, 3, none⟩ = some (.int .i64 dl) := (blk_cell hI.1 3).trans rfl
  have c4 : w.cell? ⟨g, 4, none⟩ = some (.int .i64 ks) := (blk_cell hI.1 4).trans rfl
  have c5 : w.cell? ⟨g, 5, none⟩ = some (.int .i64 ee) := (blk_cell hI.1 5).trans rfl
  have c6 : w.cell? ⟨g, 6, none⟩ = some (.int .i64 wd) := (blk_cell hI.1 6).trans rfl
  have c7 : w.cell? ⟨g, 7, none⟩ = some (.int .i64 rh) := (blk_cell hI.1 7).trans rfl
  have c8 : w.cell? ⟨g, 8, none⟩ = some (.int .i64 sl) := (blk_cell hI.1 8).trans rfl
  have c9 : w.cell? ⟨g, 9, none⟩ = some (.int .i64 cp) := (blk_cell hI.1 9).trans rfl
  have hgs : g < w.heap.size := blk_lt hI.1
  have hne := hM.ne hI.1
  have hn : 1 ≤ n ∧ n ≤ 8 := by unfold Ok at hk; omega
  obtain ⟨n0, n1⟩ := hn
  have HI := Aside0.mk hI
  have HB := Aside0.mk hB
  have HP := Aside0.mk hp
  have HM := Aside0.mk hM
  have HM0 := Aside0.mk hM0
  clear hI hB hp hM hM0 hk
  have HRW : Aside0 ((Lit.int .i64 r).wf = true) := ⟨WalkArith.wf_i64 (by omega)⟩
  obtain ⟨q, hq⟩ : ∃ q, M r = q := ⟨_, rfl⟩
  have QL : Aside0 (∀ W, MapIs W bm k M → (Instr.lookup 90 (.map (some bm)) (.int .i64 r) false).run Try.prog W = .ok (.int .i64 q) W) := ⟨fun W h => by rw [h.look r HRW.out, hq]⟩
  have HQ := Aside0.mk hq
  rw [hq] at hf
  have hq0 : 0 ≤ q := by rw [← hq]; exact HM0.out r
  have v1 : IntKind.i64.wrap (4 * n) = 4 * n := by rw [IntKind.wrap_i64]; omega
  have v2 : decide (4 * n ≤ q) = false := decide_eq_false (by omega)
  have v3 : IntKind.i64.wrap (q + 1) = q + 1 := by rw [IntKind.wrap_i64]; omega
  have V3 := Aside0.mk v3
  clear hq v3
  go_enter Try.func16, Try.ntmps16
  go_upto_region 6 with (first | (go_at_call 48; go_loud (refine (none_ok g bm n f s dl ks ee wd rh sl cp i la le z w HI.out).mono ?_; rintro en w1 ⟨rfl, e1⟩; rw [e1]; clear e1)) | (go_at_call 14; go_loud (refine (sched_Place.calls 3 n f s dl ks ee wd rh sl cp t r p o 0 _ HP.out).mono ?_; rintro en w2 ⟨rfl, hb⟩; have I2 : Aside0 (IsG z w2 g bm n f s dl ks ee wd rh sl cp i la le) := ⟨blk_below HI.out.1 hb, HI.out.2⟩; have B2 := Aside0.mk (below_step HB.out hb); have G2 : Aside0 (w.grownBy w2 (some bm)) := ⟨⟨hb.os, hb.tape, hb.output, hb.size, fun i hi _ => hb.block i hi⟩⟩; have M2 : Aside0 (MapIs w2 bm k M) := ⟨HM.out.kept (row := none) ⟨hb.os, hb.tape, hb.output, hb.size, fun i hi _ => hb.block i hi⟩ (by simp)⟩; have hs2 : g < w2.heap.size := Nat.lt_of_lt_of_le hgs hb.size; have k0 : w2.cell? ⟨g, 0, none⟩ = some (.int .i64 n) := (blk_cell I2.out.1 0).trans rfl; have k13 : w2.cell? ⟨g, 13, none⟩ = some (.map (some bm)) := (blk_cell I2.out.1 13).trans rfl; have hl : ∀ m, (Instr.lookup 90 (.map (some bm)) (.int .i64 r) false).run Try.prog ((w2.alloc (.cells #[.int .i64 r, .int .i64 p, .int .i64 o] 33)).drewN m) = .ok (.int .i64 q) ((w2.alloc (.cells #[.int .i64 r, .int .i64 p, .int .i64 o] 33)).drewN m) := (fun m => QL.out _ ((M2.out.alloc (.cells #[.int .i64 r, .int .i64 p, .int .i64 o] 33)).drewN m)); clear hb)))
  go_quiet (fail)
  go_upto_region 8 with (fail)
  refine wp_gen (fun W => (IsG z W g bm n f s dl ks ee wd rh sl cp i la le) ∧ MapIs W bm k M ∧ w.grownBy W (some bm) ∧ W.heap[w2.heap.size]? = some (.cells #[.int .i64 r, .int .i64 p, .int .i64 o] 33 (0, 0)) ∧ bm < w2.heap.size ∧ Below z.heap.size z W) ⟨(I2.out.alloc _).drewN _, (M2.out.alloc _).drewN _, grown_drewN (grown_alloc G2.out _ HM.out.lt) _, blk_drewN (blk_new _ _) _, M2.out.lt, pw_below_drewN (below_alloc B2.out _) _⟩ ?_
  rintro W ⟨a1, a2, a3, a4, a5, a6⟩
  have d13 : W.cell? ⟨g, 13, none⟩ = some (.map (some bm)) := (blk_cell a1.1 13).trans rfl
  have x0 : W.cell? ⟨w2.heap.size, 0, none⟩ = some (.int .i64 r) := (blk_cell a4 0).trans rfl
  have hl2 : (Instr.lookup 90 (.map (some bm)) (.int .i64 r) false).run Try.prog W.drew = .ok (.int .i64 q) W.drew := QL.out _ (a2.drewN 1)
  obtain ⟨bx, hbx⟩ : ∃ bx, w2.heap.size = bx := ⟨_, rfl⟩
  have A1 := Aside0.mk a1
  obtain ⟨D, hown, hat⟩ := a2
  have HAT := Aside0.mk hat
  have A3 := Aside0.mk a3
  have A4 := Aside0.mk a4
  have A6 := Aside0.mk a6
  have hnx : bm ≠ w2.heap.size := by omega
  have v3 := V3.out
  clear a1 a3 a4 a6 hat I2 B2 G2 M2 k0 k13 hl hs2 hbx
  go_still_tail 8, (by kernel_rfl)
  go_wp2_with (first | (at_mapUpdate; refine wpList_mapUpdate_own _ rfl _ _ _ 90 rfl 3 3 law3 Try.underlying90 _ bm k D rfl hown (by unfold maxLen; omega) _ _ _ rfl rfl (keyOf_int_mk Try.underlying3 HRW.out) (.lit (.int .i64 (q + 1))) [] (plainElem_int Try.underlying3 (WalkArith.wf_i64 (by omega))) ?_; intro w3 hown3 hgrow3; have x3 : w3.cell? ⟨w2.heap.size, 0, none⟩ = some (.int .i64 r) := (World.cell?_of_block (w := W) (hgrow3.block _ (blk_lt A4.out) (by simpa using fun e => hnx e.symm))).trans x0; have I3 : Aside0 (IsG z w3 g bm n f s dl ks ee wd rh sl cp i la le) := ⟨IsG.kept A1.out.drew hgrow3 hne⟩; have M3 := Aside0.mk (MapIs.put r (q + 1) HAT.out hown.isMap hown3); have G3 := Aside0.mk (grown_then (grown_drew A3.out) hgrow3); clear hown3 hgrow3) | (go_at_call 50; go_loud (refine (clean_ok g bm (k + 1) n f s dl ks ee wd rh sl cp i la le r _ z _ I3.out M3.out ?hc r0 r1).mono ?_; (case hc => (intro x; (try dsimp only); split; omega; exact HM0.out x)); rintro en w4 ⟨rfl, hM4, hg4⟩; have M4 := Aside0.mk hM4; have G4 := Aside0.mk hg4; clear hM4 hg4)))
  go_ret
  refine ⟨rfl, ?_, grown_then G3.out G4.out⟩
  rw [HQ.out]
  exact M4.out
end Go.Proofs.Ytfaikkhnlioajaa.Gd4
end
