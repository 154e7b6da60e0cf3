/- What the methods of a host come to. -/
import Derived.Test.YtmofahlmcpeanaaProg
import Derived.Below
import Derived.Deep.Draws
import Derived.Deep.AppendLies
import Derived.Maps.AppendAt
import Derived.OwnWalk
import Derived.Laws.BytesArg
import Derived.Laws.MakeOwn
import Derived.Laws.OwnMore
import Derived.Deep.OwnRows
import Derived.Tactics
import Derived.Lib.ConvBytes
import Derived.Laws.Slices
import Derived.WalkKit
import Derived.KernelRfl
import Derived.RowKit3
import Derived.Deep.LoopGhost
import Derived.Deep.QuietTactic
import Derived.BigQuiet
import Derived.WideLaws
import Derived.Deep.DeepCutAuto
import Derived.Deep.CutBlock
import Derived.Deep.RegionHeld3
import Derived.Laws.Rows
import Derived.Lib.AppendStr
import Derived.ArgAppend
import Derived.Laws.IdiomCopy
import Derived.OrdersHeld
import Derived.Laws.BitsLemmas
import Derived.RowKit
import Derived.RegionTactic
import Derived.ChangeAlike
import Derived.Outline
import Derived.LoopTactic
import Derived.WalkSpells
import Derived.WalkLawsBesides
import Derived.Lib.Hide
import Derived.StillTailTactics
import Derived.Deep.RegionWith
import Derived.Deep.RegionLaw
import Derived.Deep.DeepFit
import Derived.Deep.DeepMust
import Derived.Test.YtmofahlmcpeanaaWWords
import Derived.Test.YtmofahlmcpeanaaWLast
import Derived.Test.YtmofahlmcpeanaaWTab
import Derived.Test.YtmofahlmcpeanaaWFour
import Derived.Test.YtmofahlmcpeanaaWQPut
import Derived.Test.YtmofahlmcpeanaaWApart
import Derived.Test.YtmofahlmcpeanaaWArr
import Derived.Test.YtmofahlmcpeanaaWZeros
import Derived.Test.YtmofahlmcpeanaaWFoot
import Derived.Test.YtmofahlmcpeanaaWKept
import Derived.Test.YtmofahlmcpeanaaWShare
import Derived.Test.YtmofahlmcpeanaaWN
import Derived.Test.YtmofahlmcpeanaaWFootNe
import Derived.Test.YtmofahlmcpeanaaWAt
import Derived.Test.YtmofahlmcpeanaaWEqStruct
import Derived.Test.YtmofahlmcpeanaaWRepsOne
import Derived.Test.YtmofahlmcpeanaaWInv
import Derived.Test.YtmofahlmcpeanaaWInvWords
import Derived.Test.YtmofahlmcpeanaaWGuard
import Derived.Test.YtmofahlmcpeanaaWNEv
import Derived.Test.YtmofahlmcpeanaaWMore
import Derived.Lib.SmallJoins
import Derived.Laws.CopyOwn
import Derived.Laws.OwnMore
import Derived.OpenShut
namespace Go.Proofs.Ytmofahlmcpeanaa.Hs1
open Go.RowKit Go.Proofs.YtmofahlmcpeanaaW.PrintWords Go.Proofs.YtmofahlmcpeanaaW.PrintLast Go.Proofs.YtmofahlmcpeanaaW.PrintMore 
attribute [local go_sem] max2_int min2_int max_two min_two max_three min_three max_four min_four
set_option linter.unusedVariables false
set_option linter.unusedSimpArgs false
/-- w' is w, but for the blocks in S and for new blocks. -/
structure Upd (S : Nat → Prop) (w w' : World) : Prop where
  os : w'.os = w.os
  tape : w'.tape = w.tape
  output : w'.output = w.output
  size : w.heap.size ≤ w'.heap.size
  block : ∀ k, k < w.heap.size → ¬ S k → w'.heap[k]? = w.heap[k]?
theorem Upd.refl (S : Nat → Prop) (w : World) : Upd S w w := ⟨rfl, rfl, rfl, Nat.le_refl _, fun _ _ _ => rfl⟩
theorem Upd.trans {S : Nat → Prop} {a b c : World} (h : Upd S a b) (k : Upd S b c) : Upd S a c :=
  ⟨k.os.trans h.os, k.tape.trans h.tape, k.output.trans h.output, Nat.le_trans h.size k.size, fun i hi hs => (k.block i (Nat.lt_of_lt_of_le hi h.size) hs).trans (h.block i hi hs)⟩
theorem Upd.mono {S T : Nat → Prop} {a b : World} (h : Upd S a b) (hS : ∀ k, k < a.heap.size → S k → T k) : Upd T a b :=
  ⟨h.os, h.tape, h.output, h.size, fun i hi hs => h.block i hi (fun x => hs (hS i hi x))⟩
theorem Upd.alloc {S : Nat → Prop} {a w : World} (h : Upd S a w) (o : Obj) : Upd S a (w.alloc o) :=
  ⟨h.os, h.tape, h.output, Nat.le_trans h.size (by simp), fun i hi hs => (Below.heap_alloc w o i (Nat.lt_of_lt_of_le hi h.size)).trans (h.block i hi hs)⟩
theorem Upd.setCell {S : Nat → Prop} {a w : World} (h : Upd S a w) {p : Addr} (hp : S p.block ∨ a.heap.size ≤ p.block) (u : Value) : Upd S a (w.setCell p u) :=
  ⟨h.os, h.tape, h.output, by simpa [World.setCell] using h.size, fun i hi hs => (Below.heap_setCell w p u i (by rintro rfl; rcases hp with x | x; exact hs x; omega)).trans (h.block i hi hs)⟩
theorem Upd.drew {S : Nat → Prop} {a w : World} (h : Upd S a w) : Upd S a w.drew := ⟨h.os, h.tape, h.output, h.size, h.block⟩
theorem Upd.drewN {S : Nat → Prop} {a w : World} (h : Upd S a w) (n : Nat) : Upd S a (w.drewN n) := ⟨h.os, h.tape, h.output, h.size, h.block⟩
theorem Upd.below {S : Nat → Prop} {a w : World} (h : Upd S a w) {B : Nat} (hB : B ≤ a.heap.size) (hS : ∀ k, S k → B ≤ k) : Below B a w :=
  ⟨h.os, h.tape, h.output, h.size, fun i hi => h.block i (by omega) (fun x => by have := hS i x; omega)⟩
theorem Upd.cellF {S : Nat → Prop} {a w : World} (h : Upd S a w) {p : Addr} {v : Value} (hc : a.cell? p = some v) (hs : ¬ S p.block) : w.cell? p = some v :=
  (World.cell?_of_block (w := a) (h.block p.block (World.block_lt_of_cell? a p hc) hs)).trans hc
theorem Upd.to_below {S : Nat → Prop} {z a w : World} {B : Nat} (h0 : Below B z a) (h : Upd S a w) (hB : B ≤ z.heap.size) (hS : ∀ k, S k → B ≤ k) : Below B z w :=
  h0.trans (h.below (Nat.le_trans hB h0.size) hS)
theorem Upd.of_below {S : Nat → Prop} {a w : World} (h : Below a.heap.size a w) : Upd S a w := ⟨h.os, h.tape, h.output, h.size, fun i hi _ => h.block i hi⟩
theorem Upd.far {S : Nat → Prop} {a w : World} (h : Upd S a w) {g : Nat} {o : Obj} (hg : a.heap[g]? = some o) (hs : ¬ S g) : w.heap[g]? = some o := (h.block g (blk_lt hg) hs).trans hg
theorem block_of_some {w : World} {a : Addr} (h : (w.cell? a).isSome = true) : a.block < w.heap.size := by
  obtain ⟨v, hv⟩ := Option.isSome_iff_exists.1 h
  exact World.block_lt_of_cell? w a hv
theorem cellS1 (w : World) (a : Addr) (o1 : Obj) (h : (w.cell? a).isSome = true) : (w.alloc o1).cell? a = w.cell? a := by
  have hl := block_of_some h
  exact (World.cell?_alloc_lt w _ a (by first | exact hl | (simp; omega) | omega)).trans (rfl)
theorem frozenS1 (w : World) (a : Addr) (o1 : Obj) (h : (w.cell? a).isSome = true) : (w.alloc o1).frozen? a = w.frozen? a := by
  have hl := block_of_some h
  exact (World.frozen?_alloc_old w _ a (by first | exact hl | (simp; omega) | omega)).trans (rfl)
theorem cellS2 (w : World) (a : Addr) (o1 o2 : Obj) (h : (w.cell? a).isSome = true) : ((w.alloc o1).alloc o2).cell? a = w.cell? a := by
  have hl := block_of_some h
  exact (World.cell?_alloc_lt (w.alloc o1) _ a (by first | exact hl | (simp; omega) | omega)).trans (cellS1 w a o1 h)
theorem frozenS2 (w : World) (a : Addr) (o1 o2 : Obj) (h : (w.cell? a).isSome = true) : ((w.alloc o1).alloc o2).frozen? a = w.frozen? a := by
  have hl := block_of_some h
  exact (World.frozen?_alloc_old (w.alloc o1) _ a (by first | exact hl | (simp; omega) | omega)).trans (frozenS1 w a o1 h)
theorem cellS3 (w : World) (a : Addr) (o1 o2 o3 : Obj) (h : (w.cell? a).isSome = true) : (((w.alloc o1).alloc o2).alloc o3).cell? a = w.cell? a := by
  have hl := block_of_some h
  exact (World.cell?_alloc_lt ((w.alloc o1).alloc o2) _ a (by first | exact hl | (simp; omega) | omega)).trans (cellS2 w a o1 o2 h)
theorem frozenS3 (w : World) (a : Addr) (o1 o2 o3 : Obj) (h : (w.cell? a).isSome = true) : (((w.alloc o1).alloc o2).alloc o3).frozen? a = w.frozen? a := by
  have hl := block_of_some h
  exact (World.frozen?_alloc_old ((w.alloc o1).alloc o2) _ a (by first | exact hl | (simp; omega) | omega)).trans (frozenS2 w a o1 o2 h)
theorem cellS4 (w : World) (a : Addr) (o1 o2 o3 o4 : Obj) (h : (w.cell? a).isSome = true) : ((((w.alloc o1).alloc o2).alloc o3).alloc o4).cell? a = w.cell? a := by
  have hl := block_of_some h
  exact (World.cell?_alloc_lt (((w.alloc o1).alloc o2).alloc o3) _ a (by first | exact hl | (simp; omega) | omega)).trans (cellS3 w a o1 o2 o3 h)
theorem frozenS4 (w : World) (a : Addr) (o1 o2 o3 o4 : Obj) (h : (w.cell? a).isSome = true) : ((((w.alloc o1).alloc o2).alloc o3).alloc o4).frozen? a = w.frozen? a := by
  have hl := block_of_some h
  exact (World.frozen?_alloc_old (((w.alloc o1).alloc o2).alloc o3) _ a (by first | exact hl | (simp; omega) | omega)).trans (frozenS3 w a o1 o2 o3 h)
theorem cellS5 (w : World) (a : Addr) (o1 o2 o3 o4 o5 : Obj) (h : (w.cell? a).isSome = true) : (((((w.alloc o1).alloc o2).alloc o3).alloc o4).alloc o5).cell? a = w.cell? a := by
  have hl := block_of_some h
  exact (World.cell?_alloc_lt ((((w.alloc o1).alloc o2).alloc o3).alloc o4) _ a (by first | exact hl | (simp; omega) | omega)).trans (cellS4 w a o1 o2 o3 o4 h)
theorem frozenS5 (w : World) (a : Addr) (o1 o2 o3 o4 o5 : Obj) (h : (w.cell? a).isSome = true) : (((((w.alloc o1).alloc o2).alloc o3).alloc o4).alloc o5).frozen? a = w.frozen? a := by
  have hl := block_of_some h
  exact (World.frozen?_alloc_old ((((w.alloc o1).alloc o2).alloc o3).alloc o4) _ a (by first | exact hl | (simp; omega) | omega)).trans (frozenS4 w a o1 o2 o3 o4 h)
theorem cellS6 (w : World) (a : Addr) (o1 o2 o3 o4 o5 o6 : Obj) (h : (w.cell? a).isSome = true) : ((((((w.alloc o1).alloc o2).alloc o3).alloc o4).alloc o5).alloc o6).cell? a = w.cell? a := by
  have hl := block_of_some h
  exact (World.cell?_alloc_lt (((((w.alloc o1).alloc o2).alloc o3).alloc o4).alloc o5) _ a (by first | exact hl | (simp; omega) | omega)).trans (cellS5 w a o1 o2 o3 o4 o5 h)
theorem frozenS6 (w : World) (a : Addr) (o1 o2 o3 o4 o5 o6 : Obj) (h : (w.cell? a).isSome = true) : ((((((w.alloc o1).alloc o2).alloc o3).alloc o4).alloc o5).alloc o6).frozen? a = w.frozen? a := by
  have hl := block_of_some h
  exact (World.frozen?_alloc_old (((((w.alloc o1).alloc o2).alloc o3).alloc o4).alloc o5) _ a (by first | exact hl | (simp; omega) | omega)).trans (frozenS5 w a o1 o2 o3 o4 o5 h)
theorem cellS7 (w : World) (a : Addr) (o1 o2 o3 o4 o5 o6 o7 : Obj) (h : (w.cell? a).isSome = true) : (((((((w.alloc o1).alloc o2).alloc o3).alloc o4).alloc o5).alloc o6).alloc o7).cell? a = w.cell? a := by
  have hl := block_of_some h
  exact (World.cell?_alloc_lt ((((((w.alloc o1).alloc o2).alloc o3).alloc o4).alloc o5).alloc o6) _ a (by first | exact hl | (simp; omega) | omega)).trans (cellS6 w a o1 o2 o3 o4 o5 o6 h)
theorem frozenS7 (w : World) (a : Addr) (o1 o2 o3 o4 o5 o6 o7 : Obj) (h : (w.cell? a).isSome = true) : (((((((w.alloc o1).alloc o2).alloc o3).alloc o4).alloc o5).alloc o6).alloc o7).frozen? a = w.frozen? a := by
  have hl := block_of_some h
  exact (World.frozen?_alloc_old ((((((w.alloc o1).alloc o2).alloc o3).alloc o4).alloc o5).alloc o6) _ a (by first | exact hl | (simp; omega) | omega)).trans (frozenS6 w a o1 o2 o3 o4 o5 o6 h)
theorem cellS8 (w : World) (a : Addr) (o1 o2 o3 o4 o5 o6 o7 o8 : Obj) (h : (w.cell? a).isSome = true) : ((((((((w.alloc o1).alloc o2).alloc o3).alloc o4).alloc o5).alloc o6).alloc o7).alloc o8).cell? a = w.cell? a := by
  have hl := block_of_some h
  exact (World.cell?_alloc_lt (((((((w.alloc o1).alloc o2).alloc o3).alloc o4).alloc o5).alloc o6).alloc o7) _ a (by first | exact hl | (simp; omega) | omega)).trans (cellS7 w a o1 o2 o3 o4 o5 o6 o7 h)
theorem frozenS8 (w : World) (a : Addr) (o1 o2 o3 o4 o5 o6 o7 o8 : Obj) (h : (w.cell? a).isSome = true) : ((((((((w.alloc o1).alloc o2).alloc o3).alloc o4).alloc o5).alloc o6).alloc o7).alloc o8).frozen? a = w.frozen? a := by
  have hl := block_of_some h
  exact (World.frozen?_alloc_old (((((((w.alloc o1).alloc o2).alloc o3).alloc o4).alloc o5).alloc o6).alloc o7) _ a (by first | exact hl | (simp; omega) | omega)).trans (frozenS7 w a o1 o2 o3 o4 o5 o6 o7 h)
theorem ret_int {k : IntKind} {a b : Int} (h : a = b) : Ending.returned (.int k a) = .returned (.int k b) := by rw [h]
attribute [local go_sem] cellS1 frozenS1 cellS2 frozenS2 cellS3 frozenS3 cellS4 frozenS4 cellS5 frozenS5 cellS6 frozenS6 cellS7 frozenS7 cellS8 frozenS8
theorem quiet_add {P : Program} {f : FuncId} {args : Array Value} {w : World} {a n : Nat} {v : Value}
    (h : Calls P f args (w.drewN (a + n)) fun e w' => e = .returned v ∧ ∃ m, w' = (w.drewN (a + n)).drewN m) :
    Calls P f args (w.drewN (a + n)) fun e w'' => e = .returned v ∧ ∃ m, w'' = w.drewN (a + m) :=
  h.mono fun _ _ ⟨he, m, hm⟩ => ⟨he, n + m, by rw [hm, World.drewN_drewN, Nat.add_assoc]⟩
theorem quiet_add_same {P : Program} {f : FuncId} {args : Array Value} {w : World} {a n : Nat} {v : Value}
    (h : Calls P f args (w.drewN (a + n)) fun e w' => e = .returned v ∧ w' = w.drewN (a + n)) :
    Calls P f args (w.drewN (a + n)) fun e w'' => e = .returned v ∧ ∃ m, w'' = w.drewN (a + m) :=
  h.mono fun _ _ ⟨he, hm⟩ => ⟨he, n, hm⟩
theorem quiet_add_left {P : Program} {f : FuncId} {args : Array Value} {w : World} {a n : Nat} {v : Value}
    (h : Calls P f args (w.drewN (a + n)) fun e w' => e = .returned v ∧ w.drewN (a + n) = w') :
    Calls P f args (w.drewN (a + n)) fun e w'' => e = .returned v ∧ ∃ m, w'' = w.drewN (a + m) :=
  h.mono fun _ _ ⟨he, hm⟩ => ⟨he, n, hm.symm⟩
theorem quiet_left {P : Program} {f : FuncId} {args : Array Value} {w : World} {n : Nat} {v : Value}
    (h : Calls P f args (w.drewN n) fun e w' => e = .returned v ∧ w.drewN n = w') : Calls P f args (w.drewN n) fun e w'' => e = .returned v ∧ ∃ m, w'' = w.drewN m :=
  h.mono fun _ _ ⟨he, hm⟩ => ⟨he, n, hm.symm⟩
open Go.Joins
theorem wp_gen {P : Program} {c : Code} {Q : Exit → Act → World → Prop} {a : Act} {w : World} (F : World → Prop) (hF : F w) (h : ∀ W, F W → Code.wp P c Q a W) : Code.wp P c Q a w := h w hF
/-- The cells of a host: what waits (sixteen places), where the first is, how many, what was released, how many were lost. -/
def hc (vs : List Value) (a m : Nat) (iv : Value) (lo : Int) : Array Value := (vs ++ [.int .i64 a, .int .i64 m, iv, .int .i64 lo, .bool true]).toArray
def IsH (z w : World) (g : Nat) (vs : List Value) (a m : Nat) (iv : Value) (lo : Int) : Prop := w.heap[g]? = some (.cells (hc vs a m iv lo) 40 (0, 0)) ∧ vs.length = 16 ∧ z.heap.size ≤ g
theorem hc_lo (vs : List Value) (a m : Nat) (iv : Value) (lo : Int) (j : Nat) (hl : vs.length = 16) (hj : j < 16) : (hc vs a m iv lo)[j]? = some (vs.getD j undef) := by
  unfold hc
  rw [List.getElem?_toArray, List.getElem?_append_left (by omega), List.getD_eq_getElem?_getD, List.getElem?_eq_getElem (by omega)]; rfl
theorem hc_hi (vs : List Value) (a m : Nat) (iv : Value) (lo : Int) (j : Nat) (hl : vs.length = 16) : (hc vs a m iv lo)[16 + j]? = [Value.int .i64 a, .int .i64 m, iv, .int .i64 lo, .bool true][j]? := by
  unfold hc
  rw [List.getElem?_toArray, List.getElem?_append_right (by omega), show 16 + j - vs.length = j by omega]
theorem hc_set_lo (vs : List Value) (a m : Nat) (iv : Value) (lo : Int) (j : Nat) (hl : vs.length = 16) (hj : j < 16) (v : Value) : (hc vs a m iv lo).setIfInBounds j v = hc (vs.set j v) a m iv lo := by
  unfold hc
  rw [List.setIfInBounds_toArray, List.set_append_left _ _ (by omega)]
theorem hc_set_hi (vs : List Value) (a m : Nat) (iv : Value) (lo : Int) (j : Nat) (hl : vs.length = 16) (v : Value) : (hc vs a m iv lo).setIfInBounds (16 + j) v = (vs ++ [Value.int .i64 a, .int .i64 m, iv, .int .i64 lo, .bool true].set j v).toArray := by
  unfold hc
  rw [List.setIfInBounds_toArray, List.set_append_right _ _ (by omega), show 16 + j - vs.length = j by omega]
section
variable {z w : World} {g : Nat} {vs : List Value} {a m : Nat} {iv : Value} {lo : Int}
theorem IsH.cell (h : IsH z w g vs a m iv lo) (j : Nat) (hj : j < 16) : w.cell? ⟨g, j, none⟩ = some (vs.getD j undef) := (cell_of_block h.1 j).trans (hc_lo vs a m iv lo j h.2.1 hj)
theorem IsH.c16 (h : IsH z w g vs a m iv lo) : w.cell? ⟨g, 16, none⟩ = some (.int .i64 a) := (cell_of_block h.1 16).trans (hc_hi vs a m iv lo 0 h.2.1)
theorem IsH.c17 (h : IsH z w g vs a m iv lo) : w.cell? ⟨g, 17, none⟩ = some (.int .i64 m) := (cell_of_block h.1 17).trans (hc_hi vs a m iv lo 1 h.2.1)
theorem IsH.c18 (h : IsH z w g vs a m iv lo) : w.cell? ⟨g, 18, none⟩ = some iv := (cell_of_block h.1 18).trans (hc_hi vs a m iv lo 2 h.2.1)
theorem IsH.c19 (h : IsH z w g vs a m iv lo) : w.cell? ⟨g, 19, none⟩ = some (.int .i64 lo) := (cell_of_block h.1 19).trans (hc_hi vs a m iv lo 3 h.2.1)
theorem IsH.c20 (h : IsH z w g vs a m iv lo) : w.cell? ⟨g, 20, none⟩ = some (.bool true) := (cell_of_block h.1 20).trans (hc_hi vs a m iv lo 4 h.2.1)
theorem IsH.fz (h : IsH z w g vs a m iv lo) (j : Nat) : w.frozen? ⟨g, j, none⟩ = false := unfrozen_of_block h.1 j
theorem IsH.set (h : IsH z w g vs a m iv lo) (j : Nat) (hj : j < 16) (v : Value) : IsH z (w.setCell ⟨g, j, none⟩ v) g (vs.set j v) a m iv lo := ⟨by rw [block_setCell h.1, hc_set_lo vs a m iv lo j h.2.1 hj], by rw [List.length_set]; exact h.2.1, h.2.2⟩
theorem IsH.set16 (h : IsH z w g vs a m iv lo) (x : Nat) : IsH z (w.setCell ⟨g, 16, none⟩ (.int .i64 x)) g vs x m iv lo := ⟨by rw [block_setCell h.1, show (16 : Nat) = 16 + 0 from rfl, hc_set_hi vs a m iv lo 0 h.2.1]; rfl, h.2.1, h.2.2⟩
theorem IsH.set17 (h : IsH z w g vs a m iv lo) (x : Nat) : IsH z (w.setCell ⟨g, 17, none⟩ (.int .i64 x)) g vs a x iv lo := ⟨by rw [block_setCell h.1, show (17 : Nat) = 16 + 1 from rfl, hc_set_hi vs a m iv lo 1 h.2.1]; rfl, h.2.1, h.2.2⟩
theorem IsH.set18 (h : IsH z w g vs a m iv lo) (x : Value) : IsH z (w.setCell ⟨g, 18, none⟩ x) g vs a m x lo := ⟨by rw [block_setCell h.1, show (18 : Nat) = 16 + 2 from rfl, hc_set_hi vs a m iv lo 2 h.2.1]; rfl, h.2.1, h.2.2⟩
theorem IsH.set19 (h : IsH z w g vs a m iv lo) (x : Int) : IsH z (w.setCell ⟨g, 19, none⟩ (.int .i64 x)) g vs a m iv x := ⟨by rw [block_setCell h.1, show (19 : Nat) = 16 + 3 from rfl, hc_set_hi vs a m iv lo 3 h.2.1]; rfl, h.2.1, h.2.2⟩
theorem IsH.drewN (h : IsH z w g vs a m iv lo) (k : Nat) : IsH z (w.drewN k) g vs a m iv lo := h
theorem IsH.drew (h : IsH z w g vs a m iv lo) : IsH z w.drew g vs a m iv lo := h
theorem IsH.grown {w' : World} {row : Option Nat} (h : IsH z w g vs a m iv lo) (hg : w.grownBy w' row) (hne : some g ≠ row) : IsH z w' g vs a m iv lo := ⟨(hg.block g (Array.getElem?_eq_some_iff.1 h.1).1 hne).trans h.1, h.2⟩
theorem IsH.below {w' : World} (h : IsH z w g vs a m iv lo) (hb : Below w.heap.size w w') : IsH z w' g vs a m iv lo := ⟨(hb.block g (Array.getElem?_eq_some_iff.1 h.1).1).trans h.1, h.2⟩
theorem IsH.lt (h : IsH z w g vs a m iv lo) : g < w.heap.size := (Array.getElem?_eq_some_iff.1 h.1).1
end
theorem own_of_block {w : World} {g base n : Nat} {e : TypeId} {xs : List Value} (h : w.heap[g]? = some (.cells xs.toArray e (0, 0))) (hl : xs.length = n) (hb : base ≤ g) (hn : n ≤ maxLen) : w.ownsRow base e 1 (.slice (some ⟨g, 0, none⟩) n n) n xs :=
  ⟨by omega, .inr ⟨g, n, xs.toArray, rfl, hb, h, Nat.le_refl _, hn, by simp [hl], by simp [← hl]⟩⟩
theorem own_off {w : World} {b g : Nat} {e : TypeId} {size : Nat} {v : Value} {n : Nat} {xs : List Value} {cs : Array Value} {t : TypeId} {fr : Nat × Nat} (h : w.ownsRow b e size v n xs) (hg : w.heap[g]? = some (.cells cs t fr)) (ht : t ≠ e) : v.ownBlock ≠ some g := by
  intro e'
  rcases h.2 with ⟨rfl, _⟩ | ⟨g', cap, cur, rfl, _, hgg, _⟩
  · simp [Value.ownBlock] at e'
  · simp [Value.ownBlock] at e'
    subst e'
    rw [hgg] at hg
    cases hg
    exact ht rfl
theorem none_ok (g : Nat) (vs : List Value) (a m : Nat) (iv : Value) (lo : Int) (z w : World) (hI : IsH z w g vs a m iv lo) : Calls Try.prog 19 #[.pointer (some ⟨g, 0, none⟩)] w fun en w' => en = .returned (.bool false) ∧ w' = w := by
  have c20 := hI.c20
  clear hI
  go_enter Try.func19, Try.ntmps19
  go_wp2
  go_ret
  exact ⟨rfl, rfl⟩
theorem waiting_ok (g : Nat) (vs : List Value) (a m : Nat) (iv : Value) (lo : Int) (z w : World) (hI : IsH z w g vs a m iv lo) : Calls Try.prog 9 #[.pointer (some ⟨g, 0, none⟩)] w fun en w' => en = .returned (.int .i64 m) ∧ w' = w := by
  have c17 := hI.c17
  have HI := Aside0.mk hI
  clear hI
  go_enter Try.func9, Try.ntmps9
  go_wp2_with (first | (go_at_call 19; go_loud (refine (none_ok g vs a m iv lo z _ HI.out).mono ?_; rintro en w1 ⟨rfl, e1⟩; rw [e1]; clear e1)))
  go_ret
  exact ⟨rfl, rfl⟩
theorem lost_ok (g : Nat) (vs : List Value) (a m : Nat) (iv : Value) (lo : Int) (z w : World) (hI : IsH z w g vs a m iv lo) : Calls Try.prog 13 #[.pointer (some ⟨g, 0, none⟩)] w fun en w' => en = .returned (.int .i64 lo) ∧ w' = w := by
  have c19 := hI.c19
  have HI := Aside0.mk hI
  clear hI
  go_enter Try.func13, Try.ntmps13
  go_wp2_with (first | (go_at_call 19; go_loud (refine (none_ok g vs a m iv lo z _ HI.out).mono ?_; rintro en w1 ⟨rfl, e1⟩; rw [e1]; clear e1)))
  go_ret
  exact ⟨rfl, rfl⟩
theorem full_no (g : Nat) (vs : List Value) (a m : Nat) (iv : Value) (lo : Int) (z w : World) (hI : IsH z w g vs a m iv lo) (hm : m < 16) : Calls Try.prog 20 #[.pointer (some ⟨g, 0, none⟩)] w fun en w' => en = .returned (.bool false) ∧ w' = w := by
  have c17 := hI.c17
  have hb : ((m : Int) == 16) = false := beq_eq_false_iff_ne.2 (by omega)
  clear hI
  go_enter Try.func20, Try.ntmps20
  go_wp2
  go_ret
  exact ⟨rfl, rfl⟩
theorem full_yes (g : Nat) (vs : List Value) (a m : Nat) (iv : Value) (lo : Int) (z w : World) (hI : IsH z w g vs a m iv lo) (hm : m = 16) : Calls Try.prog 20 #[.pointer (some ⟨g, 0, none⟩)] w fun en w' => en = .returned (.bool true) ∧ w' = w := by
  have c17 := hI.c17
  subst hm
  clear hI
  go_enter Try.func20, Try.ntmps20
  go_wp2
  go_ret
  exact ⟨rfl, rfl⟩
theorem new_ok (w : World) : Calls Try.prog 6 #[] w fun en w' => ∃ g, en = .returned (.pointer (some ⟨g, 0, none⟩)) ∧ IsH w w' g (List.replicate 16 (.slice none 0 0)) 0 0 (.slice none 0 0) 0 ∧ Below w.heap.size w w' := by
  go_enter Try.func6, Try.ntmps6
  go_wp2
  go_ret
  exact ⟨_, rfl, ⟨heap_alloc_new _ _, rfl, Nat.le_refl _⟩, below_alloc (Below.refl _ _) _⟩
theorem info5 : (Try.prog.info? 5).map (fun i => (i.zero, i.size, i.bytes)) = some (some (.int .u8 0), 1, 1) := by kernel_rfl
theorem size5 : (Try.prog.info? 5).map (·.size) = some 1 := by kernel_rfl
theorem C_cells {w : World} {A : Option Addr} {b : List Int} (h : Kd.C (Kd.int .u8) w A b.length b) (hp : 0 < b.length) : ∃ ad, A = some ad ∧ ∀ j v, (b.map (Value.int .u8))[j]? = some v → w.cell? (ad.add j) = some v := by
  have hr : ReadsInt w .u8 A b.length b := Kd.reads_of_C (enc := Value.int .u8) (d := (0 : Int)) (h1 := fun _ => rfl) h
  obtain ⟨ad, e, hc⟩ := hr.2.2 hp
  refine ⟨ad, e, fun j v hj => ?_⟩
  rw [List.getElem?_map] at hj
  cases hb : b[j]? with
  | none => rw [hb] at hj; cases hj
  | some x =>
    rw [hb] at hj
    cases hj
    have hlt := (List.getElem?_eq_some_iff.1 hb).1
    rw [hc j hlt, List.getD_eq_getElem?_getD, hb]; rfl
set_option maxRecDepth 100000 in
set_option maxHeartbeats 8000000 in
theorem put_ok (g : Nat) (vs : List Value) (a m : Nat) (iv : Value) (lo : Int) (z w : World) (hI : IsH z w g vs a m iv lo) (hB : Below z.heap.size z w) (A : Option Addr) (c : Nat) (b : List Int) (hC : Kd.C (Kd.int .u8) w A b.length b) (hbl : b.length ≤ 16) (ha : a < 16) (hm : m < 16) (j : Nat) (hj : j = (a + m) % 16) :
    Calls Try.prog 21 #[.pointer (some ⟨g, 0, none⟩), .slice A b.length c] w fun en w' => ∃ v, en = .returned (.tuple #[]) ∧ IsH z w' g (vs.set j v) a (m + 1) iv lo ∧ w'.ownsRow w.heap.size 5 1 v b.length (b.map (Value.int .u8)) ∧ Below z.heap.size z w' ∧ KeepBut w w' g none := by
  obtain ⟨i5, hi, hz0, hz1, hz2⟩ := info_parts info5
  obtain ⟨w1, hmk, hown, hgw⟩ := run_make_full (P := Try.prog) w w.heap.size 29 5 i5 (.int .u8 0) 1 Try.underlying29 hi hz0 hz1 .i64 .i64 b.length (by rw [hz2]; omega) (by unfold maxLen; omega) (Nat.le_refl _)
  have hb1 : Below w.heap.size w w1 := ⟨hgw.os, hgw.tape, hgw.output, hgw.size, fun i hi => hgw.block i hi (by simp)⟩
  obtain ⟨cur, hcl, hcur⟩ : ∃ cur : List Value, cur.length = b.length ∧ w1.heap[w.heap.size]? = some (.cells cur.toArray 5 (0, 0)) := by
    rcases hown.2 with ⟨e, _⟩ | ⟨g', cap, cur, e, _, hh, _, _, hs, _⟩
    · cases e
    · cases e
      exact ⟨cur.toList, by simpa using hs, by simpa using hh⟩
  have hgl := hI.lt
  have HI := Aside0.mk hI
  have HB := Aside0.mk hB
  have HC := Aside0.mk (fun hp => C_cells hC hp)
  have HCL := Aside0.mk hcl
  have HCUR := Aside0.mk hcur
  have HB1 := Aside0.mk hb1
  have HGW := Aside0.mk hgw
  clear hI hB hC hown hgw hb1 hcl hcur
  have hjl : j < 16 := by omega
  have HJ := Aside0.mk hj
  have v1 : IntKind.i64.wrap ((a : Int) + (m : Int)) = (a : Int) + (m : Int) := by rw [IntKind.wrap_i64]; omega
  have v2 : IntKind.i64.wrap (((a : Int) + (m : Int)).tmod 16) = (j : Int) := by rw [Int.tmod_eq_emod_of_nonneg (by omega), IntKind.wrap_i64, hj]; omega
  have v3 : ((a : Int) + (m : Int)).tmod 16 = (j : Int) := by rw [Int.tmod_eq_emod_of_nonneg (by omega), hj]; omega
  have V := Aside0.mk (And.intro v1 (And.intro v2 v3))
  clear hj v1 v2 v3
  go_enter Try.func21, Try.ntmps21
  go_upto_region 2 with (first | (with_reducible refine wpList_copy_splice rfl (.tmp 8) (.tmp 9) 29 29 rfl 5 Try.underlying29 size5 (some ⟨w.heap.size, 0, none⟩) A b.length b.length b.length c rfl rfl w.heap.size 0 cur 5 HCUR.out (b.map (Value.int .u8)) (by simp) ?hpos (by simp [HCL.out]) (by simp [Value.oneCell']) w.heap.size w HB1.out (Nat.le_refl _) ?_; (case hpos => (intro hp; obtain ⟨ad, e, hc⟩ := HC.out (by simpa using hp); exact ⟨rfl, ad, e, fun j v hj => (HB1.out.cell (World.block_lt_of_cell? w _ (hc j v hj))).trans (hc j v hj)⟩)); intro w2 hx hb2; have HX := Aside0.mk hx.out; have HB2 := Aside0.mk hb2; clear hx hb2))
  refine wp_gen (fun W => (IsH z W g vs a m iv lo) ∧ W.ownsRow w.heap.size 5 1 (.slice (some ⟨w.heap.size, 0, none⟩) b.length b.length) b.length (b.map (Value.int .u8)) ∧ Below z.heap.size z W ∧ KeepBut w W g none) ⟨HI.out.below HB2.out, own_of_block (by rw [HX.out]; unfold splice; simp [HCL.out]) (by simp) (Nat.le_refl _) (by unfold maxLen; omega), below_step HB.out HB2.out, KeepBut.of_below HB2.out g none⟩ ?_
  rintro W ⟨J1, J2, J3, J4⟩
  have d16 := J1.c16
  have d17 := J1.c17
  have dj := J1.cell j hjl
  have fj := J1.fz j
  have f17 := J1.fz 17
  have hgW := J1.lt
  obtain ⟨old, hold⟩ : ∃ old, vs.getD j undef = old := ⟨_, rfl⟩
  rw [hold] at dj
  clear hold
  have K1 := Aside0.mk J1
  have K2 := Aside0.mk J2
  have K3 := Aside0.mk J3
  have K4 := Aside0.mk J4
  have v1 := V.out.1
  have v2 := V.out.2.1
  have v3 := V.out.2.2
  have hj0 : (0 : Int) ≤ (j : Int) := by omega
  have hj1 : (j : Int) < 16 := by omega
  clear J1 J2 J3 J4 hmk
  go_still_tail 15, (by kernel_rfl)
  go_wp2
  go_end0
  have hgw : g < w.heap.size := hgl
  refine ⟨.slice (some ⟨w.heap.size, 0, none⟩) b.length b.length, rfl, ?_, ?_, ?_, ?_⟩
  · exact IsH.drew (by have := (K1.out.set j hjl (Value.slice (some ⟨w.heap.size, 0, none⟩) b.length b.length)).set17 (m + 1); simpa using this)
  · exact ownsRow_setCell_below (ownsRow_setCell_below K2.out (by exact hgw) _) (by exact hgw) _
  · exact below_drew1 ((K3.out.setCell (p := ⟨g, j, none⟩) HI.out.2.2 _).setCell (p := ⟨g, 17, none⟩) HI.out.2.2 _)
  · exact keep_drew ((K4.out.set_ _ _).set_ _ _)
set_option maxRecDepth 100000 in
set_option maxHeartbeats 8000000 in
theorem take_ok (g : Nat) (vs : List Value) (a m : Nat) (iv : Value) (lo : Int) (z w : World) (hI : IsH z w g vs a m iv lo) (hB : Below z.heap.size z w) (A : Option Addr) (n c : Nat) (hv : vs.getD a undef = .slice A n c) (ha : a < 16) (hm : 0 < m) (hm2 : m ≤ 16) (a2 : Nat) (ha2 : a2 = (a + 1) % 16) :
    Calls Try.prog 22 #[.pointer (some ⟨g, 0, none⟩)] w fun en w' => en = .returned (.slice A n c) ∧ IsH z w' g (vs.set a (.slice none 0 0)) a2 (m - 1) iv lo ∧ Below z.heap.size z w' ∧ KeepBut w w' g none := by
  have c16 := hI.c16
  have c17 := hI.c17
  have ca := hI.cell a ha
  rw [hv] at ca
  have hgl := hI.lt
  have HI := Aside0.mk hI
  have HB := Aside0.mk hB
  have HA2 := Aside0.mk ha2
  have v0 : (0 : Int) ≤ (a : Int) := by omega
  have v1 : (a : Int) < 16 := by omega
  have v2 : ((a : Int) + 1).tmod 16 = (a2 : Int) := by rw [Int.tmod_eq_emod_of_nonneg (by omega), ha2]; omega
  have v3 : ((a : Int) + 1) % 16 = (a2 : Int) := by rw [ha2]; omega
  have v4 : IntKind.i64.wrap ((a : Int) + 1) = (a : Int) + 1 := by rw [IntKind.wrap_i64]; omega
  have V := Aside0.mk (And.intro v2 (And.intro v3 v4))
  clear hI hB hv ha2 v2 v3 v4
  go_enter Try.func22, Try.ntmps22
  go_wp2
  go_quiet (fail)
  go_upto_region 2 with (fail)
  refine wp_gen (fun W => (IsH z W g vs a m iv lo) ∧ Below z.heap.size z W ∧ KeepBut w W g none) ⟨HI.out.drewN _, pw_below_drewN HB.out _, keep_drewN (KeepBut.refl _ _ _) _⟩ ?_
  clear c16 c17 ca
  rintro W ⟨J1, J2, J3⟩
  have c16 := J1.c16
  have ca := J1.cell a ha
  obtain ⟨old, hold⟩ : ∃ old, vs.getD a undef = old := ⟨_, rfl⟩
  rw [hold] at ca
  clear hold
  have fa := J1.fz a
  have K1 := Aside0.mk J1
  have K2 := Aside0.mk J2
  have K3 := Aside0.mk J3
  clear J1 J2 J3
  go_still_tail 8, (by kernel_rfl)
  go_upto_region 3 with (fail)
  refine wp_gen (fun W2 => (IsH z W2 g (vs.set a (.slice none 0 0)) a m iv lo) ∧ Below z.heap.size z W2 ∧ KeepBut w W2 g none) ⟨IsH.drew (K1.out.set a ha _), below_drew1 (K2.out.setCell (p := ⟨g, a, none⟩) HI.out.2.2 _), keep_drew (K3.out.set_ _ _)⟩ ?_
  rintro W2 ⟨J1, J2, J3⟩
  have d16 := J1.c16
  have d17 := J1.c17
  have f16 := J1.fz 16
  have f17 := J1.fz 17
  have L1 := Aside0.mk J1
  have L2 := Aside0.mk J2
  have L3 := Aside0.mk J3
  have v2 := V.out.1
  have v3 := V.out.2.1
  clear J1 J2 J3 K1 K2 K3 c16 ca fa
  go_wp2
  go_ret
  refine ⟨rfl, ?_, (L2.out.setCell (p := ⟨g, 16, none⟩) HI.out.2.2 _).setCell (p := ⟨g, 17, none⟩) HI.out.2.2 _, (L3.out.set_ _ _).set_ _ _⟩
  have := (L1.out.set16 a2).set17 (m - 1)
  rw [show ((m - 1 : Nat) : Int) = (m : Int) - 1 by omega] at this
  exact this
end Go.Proofs.Ytmofahlmcpeanaa.Hs1
