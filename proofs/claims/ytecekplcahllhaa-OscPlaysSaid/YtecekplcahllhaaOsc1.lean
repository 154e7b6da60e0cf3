/- What the methods of a clock come to. -/
import Derived.Test.YtecekplcahllhaaProg
import Derived.Below
import Derived.Deep.Draws
import Derived.Deep.AppendLies
import Derived.Maps.AppendAt
import Derived.OwnWalk
import Derived.Laws.BytesArg
import Derived.Laws.MakeOwn
import Derived.Laws.OwnMore
import Derived.Deep.OwnRows
import Derived.Tactics
import Derived.Lib.ConvBytes
import Derived.Laws.Slices
import Derived.WalkKit
import Derived.KernelRfl
import Derived.RowKit3
import Derived.Deep.LoopGhost
import Derived.Deep.QuietTactic
import Derived.BigQuiet
import Derived.WideLaws
import Derived.Deep.DeepCutAuto
import Derived.Deep.CutBlock
import Derived.Deep.RegionHeld3
import Derived.Laws.Rows
import Derived.Lib.AppendStr
import Derived.ArgAppend
import Derived.Laws.IdiomCopy
import Derived.OrdersHeld
import Derived.Laws.BitsLemmas
import Derived.RowKit
import Derived.RegionTactic
import Derived.ChangeAlike
import Derived.Outline
import Derived.LoopTactic
import Derived.WalkSpells
import Derived.WalkLawsBesides
import Derived.Lib.Hide
import Derived.StillTailTactics
import Derived.Deep.RegionWith
import Derived.Deep.RegionLaw
import Derived.Deep.DeepFit
import Derived.Deep.DeepMust
import Derived.Test.YtecekplcahllhaaWWords
import Derived.Test.YtecekplcahllhaaWLast
import Derived.Test.YtecekplcahllhaaWTab
import Derived.Test.YtecekplcahllhaaWFour
import Derived.Test.YtecekplcahllhaaWQPut
import Derived.Test.YtecekplcahllhaaWApart
import Derived.Test.YtecekplcahllhaaWArr
import Derived.Test.YtecekplcahllhaaWZeros
import Derived.Test.YtecekplcahllhaaWFoot
import Derived.Test.YtecekplcahllhaaWKept
import Derived.Test.YtecekplcahllhaaWShare
import Derived.Test.YtecekplcahllhaaWN
import Derived.Test.YtecekplcahllhaaWFootNe
import Derived.Test.YtecekplcahllhaaWAt
import Derived.Test.YtecekplcahllhaaWEqStruct
import Derived.Test.YtecekplcahllhaaWRepsOne
import Derived.Test.YtecekplcahllhaaWInv
import Derived.Test.YtecekplcahllhaaWInvWords
import Derived.Test.YtecekplcahllhaaWGuard
import Derived.Test.YtecekplcahllhaaWNEv
import Derived.Test.YtecekplcahllhaaWMore
namespace Go.Proofs.Ytecekplcahllhaa.Osc
open Go.RowKit Go.Proofs.YtecekplcahllhaaW.PrintWords Go.Proofs.YtecekplcahllhaaW.PrintLast Go.Proofs.YtecekplcahllhaaW.PrintMore 
attribute [local go_sem] max2_int min2_int max_two min_two max_three min_three max_four min_four
set_option linter.unusedVariables false
set_option linter.unusedSimpArgs false
/-- w' is w, but for the blocks in S and for new blocks. -/
structure Upd (S : Nat → Prop) (w w' : World) : Prop where
  os : w'.os = w.os
  tape : w'.tape = w.tape
  output : w'.output = w.output
  size : w.heap.size ≤ w'.heap.size
  block : ∀ k, k < w.heap.size → ¬ S k → w'.heap[k]? = w.heap[k]?
theorem Upd.refl (S : Nat → Prop) (w : World) : Upd S w w := ⟨rfl, rfl, rfl, Nat.le_refl _, fun _ _ _ => rfl⟩
theorem Upd.trans {S : Nat → Prop} {a b c : World} (h : Upd S a b) (k : Upd S b c) : Upd S a c :=
  ⟨k.os.trans h.os, k.tape.trans h.tape, k.output.trans h.output, Nat.le_trans h.size k.size, fun i hi hs => (k.block i (Nat.lt_of_lt_of_le hi h.size) hs).trans (h.block i hi hs)⟩
theorem Upd.mono {S T : Nat → Prop} {a b : World} (h : Upd S a b) (hS : ∀ k, k < a.heap.size → S k → T k) : Upd T a b :=
  ⟨h.os, h.tape, h.output, h.size, fun i hi hs => h.block i hi (fun x => hs (hS i hi x))⟩
theorem Upd.alloc {S : Nat → Prop} {a w : World} (h : Upd S a w) (o : Obj) : Upd S a (w.alloc o) :=
  ⟨h.os, h.tape, h.output, Nat.le_trans h.size (by simp), fun i hi hs => (Below.heap_alloc w o i (Nat.lt_of_lt_of_le hi h.size)).trans (h.block i hi hs)⟩
theorem Upd.setCell {S : Nat → Prop} {a w : World} (h : Upd S a w) {p : Addr} (hp : S p.block ∨ a.heap.size ≤ p.block) (u : Value) : Upd S a (w.setCell p u) :=
  ⟨h.os, h.tape, h.output, by simpa [World.setCell] using h.size, fun i hi hs => (Below.heap_setCell w p u i (by rintro rfl; rcases hp with x | x; exact hs x; omega)).trans (h.block i hi hs)⟩
theorem Upd.drew {S : Nat → Prop} {a w : World} (h : Upd S a w) : Upd S a w.drew := ⟨h.os, h.tape, h.output, h.size, h.block⟩
theorem Upd.drewN {S : Nat → Prop} {a w : World} (h : Upd S a w) (n : Nat) : Upd S a (w.drewN n) := ⟨h.os, h.tape, h.output, h.size, h.block⟩
theorem Upd.below {S : Nat → Prop} {a w : World} (h : Upd S a w) {B : Nat} (hB : B ≤ a.heap.size) (hS : ∀ k, S k → B ≤ k) : Below B a w :=
  ⟨h.os, h.tape, h.output, h.size, fun i hi => h.block i (by omega) (fun x => by have := hS i x; omega)⟩
theorem Upd.cellF {S : Nat → Prop} {a w : World} (h : Upd S a w) {p : Addr} {v : Value} (hc : a.cell? p = some v) (hs : ¬ S p.block) : w.cell? p = some v :=
  (World.cell?_of_block (w := a) (h.block p.block (World.block_lt_of_cell? a p hc) hs)).trans hc
theorem Upd.to_below {S : Nat → Prop} {z a w : World} {B : Nat} (h0 : Below B z a) (h : Upd S a w) (hB : B ≤ z.heap.size) (hS : ∀ k, S k → B ≤ k) : Below B z w :=
  h0.trans (h.below (Nat.le_trans hB h0.size) hS)
theorem Upd.of_below {S : Nat → Prop} {a w : World} (h : Below a.heap.size a w) : Upd S a w := ⟨h.os, h.tape, h.output, h.size, fun i hi _ => h.block i hi⟩
theorem Upd.far {S : Nat → Prop} {a w : World} (h : Upd S a w) {g : Nat} {o : Obj} (hg : a.heap[g]? = some o) (hs : ¬ S g) : w.heap[g]? = some o := (h.block g (blk_lt hg) hs).trans hg
theorem block_of_some {w : World} {a : Addr} (h : (w.cell? a).isSome = true) : a.block < w.heap.size := by
  obtain ⟨v, hv⟩ := Option.isSome_iff_exists.1 h
  exact World.block_lt_of_cell? w a hv
theorem cellS1 (w : World) (a : Addr) (o1 : Obj) (h : (w.cell? a).isSome = true) : (w.alloc o1).cell? a = w.cell? a := by
  have hl := block_of_some h
  exact (World.cell?_alloc_lt w _ a (by first | exact hl | (simp; omega) | omega)).trans (rfl)
theorem frozenS1 (w : World) (a : Addr) (o1 : Obj) (h : (w.cell? a).isSome = true) : (w.alloc o1).frozen? a = w.frozen? a := by
  have hl := block_of_some h
  exact (World.frozen?_alloc_old w _ a (by first | exact hl | (simp; omega) | omega)).trans (rfl)
theorem cellS2 (w : World) (a : Addr) (o1 o2 : Obj) (h : (w.cell? a).isSome = true) : ((w.alloc o1).alloc o2).cell? a = w.cell? a := by
  have hl := block_of_some h
  exact (World.cell?_alloc_lt (w.alloc o1) _ a (by first | exact hl | (simp; omega) | omega)).trans (cellS1 w a o1 h)
theorem frozenS2 (w : World) (a : Addr) (o1 o2 : Obj) (h : (w.cell? a).isSome = true) : ((w.alloc o1).alloc o2).frozen? a = w.frozen? a := by
  have hl := block_of_some h
  exact (World.frozen?_alloc_old (w.alloc o1) _ a (by first | exact hl | (simp; omega) | omega)).trans (frozenS1 w a o1 h)
theorem cellS3 (w : World) (a : Addr) (o1 o2 o3 : Obj) (h : (w.cell? a).isSome = true) : (((w.alloc o1).alloc o2).alloc o3).cell? a = w.cell? a := by
  have hl := block_of_some h
  exact (World.cell?_alloc_lt ((w.alloc o1).alloc o2) _ a (by first | exact hl | (simp; omega) | omega)).trans (cellS2 w a o1 o2 h)
theorem frozenS3 (w : World) (a : Addr) (o1 o2 o3 : Obj) (h : (w.cell? a).isSome = true) : (((w.alloc o1).alloc o2).alloc o3).frozen? a = w.frozen? a := by
  have hl := block_of_some h
  exact (World.frozen?_alloc_old ((w.alloc o1).alloc o2) _ a (by first | exact hl | (simp; omega) | omega)).trans (frozenS2 w a o1 o2 h)
theorem cellS4 (w : World) (a : Addr) (o1 o2 o3 o4 : Obj) (h : (w.cell? a).isSome = true) : ((((w.alloc o1).alloc o2).alloc o3).alloc o4).cell? a = w.cell? a := by
  have hl := block_of_some h
  exact (World.cell?_alloc_lt (((w.alloc o1).alloc o2).alloc o3) _ a (by first | exact hl | (simp; omega) | omega)).trans (cellS3 w a o1 o2 o3 h)
theorem frozenS4 (w : World) (a : Addr) (o1 o2 o3 o4 : Obj) (h : (w.cell? a).isSome = true) : ((((w.alloc o1).alloc o2).alloc o3).alloc o4).frozen? a = w.frozen? a := by
  have hl := block_of_some h
  exact (World.frozen?_alloc_old (((w.alloc o1).alloc o2).alloc o3) _ a (by first | exact hl | (simp; omega) | omega)).trans (frozenS3 w a o1 o2 o3 h)
theorem cellS5 (w : World) (a : Addr) (o1 o2 o3 o4 o5 : Obj) (h : (w.cell? a).isSome = true) : (((((w.alloc o1).alloc o2).alloc o3).alloc o4).alloc o5).cell? a = w.cell? a := by
  have hl := block_of_some h
  exact (World.cell?_alloc_lt ((((w.alloc o1).alloc o2).alloc o3).alloc o4) _ a (by first | exact hl | (simp; omega) | omega)).trans (cellS4 w a o1 o2 o3 o4 h)
theorem frozenS5 (w : World) (a : Addr) (o1 o2 o3 o4 o5 : Obj) (h : (w.cell? a).isSome = true) : (((((w.alloc o1).alloc o2).alloc o3).alloc o4).alloc o5).frozen? a = w.frozen? a := by
  have hl := block_of_some h
  exact (World.frozen?_alloc_old ((((w.alloc o1).alloc o2).alloc o3).alloc o4) _ a (by first | exact hl | (simp; omega) | omega)).trans (frozenS4 w a o1 o2 o3 o4 h)
theorem cellS6 (w : World) (a : Addr) (o1 o2 o3 o4 o5 o6 : Obj) (h : (w.cell? a).isSome = true) : ((((((w.alloc o1).alloc o2).alloc o3).alloc o4).alloc o5).alloc o6).cell? a = w.cell? a := by
  have hl := block_of_some h
  exact (World.cell?_alloc_lt (((((w.alloc o1).alloc o2).alloc o3).alloc o4).alloc o5) _ a (by first | exact hl | (simp; omega) | omega)).trans (cellS5 w a o1 o2 o3 o4 o5 h)
theorem frozenS6 (w : World) (a : Addr) (o1 o2 o3 o4 o5 o6 : Obj) (h : (w.cell? a).isSome = true) : ((((((w.alloc o1).alloc o2).alloc o3).alloc o4).alloc o5).alloc o6).frozen? a = w.frozen? a := by
  have hl := block_of_some h
  exact (World.frozen?_alloc_old (((((w.alloc o1).alloc o2).alloc o3).alloc o4).alloc o5) _ a (by first | exact hl | (simp; omega) | omega)).trans (frozenS5 w a o1 o2 o3 o4 o5 h)
theorem cellS7 (w : World) (a : Addr) (o1 o2 o3 o4 o5 o6 o7 : Obj) (h : (w.cell? a).isSome = true) : (((((((w.alloc o1).alloc o2).alloc o3).alloc o4).alloc o5).alloc o6).alloc o7).cell? a = w.cell? a := by
  have hl := block_of_some h
  exact (World.cell?_alloc_lt ((((((w.alloc o1).alloc o2).alloc o3).alloc o4).alloc o5).alloc o6) _ a (by first | exact hl | (simp; omega) | omega)).trans (cellS6 w a o1 o2 o3 o4 o5 o6 h)
theorem frozenS7 (w : World) (a : Addr) (o1 o2 o3 o4 o5 o6 o7 : Obj) (h : (w.cell? a).isSome = true) : (((((((w.alloc o1).alloc o2).alloc o3).alloc o4).alloc o5).alloc o6).alloc o7).frozen? a = w.frozen? a := by
  have hl := block_of_some h
  exact (World.frozen?_alloc_old ((((((w.alloc o1).alloc o2).alloc o3).alloc o4).alloc o5).alloc o6) _ a (by first | exact hl | (simp; omega) | omega)).trans (frozenS6 w a o1 o2 o3 o4 o5 o6 h)
theorem cellS8 (w : World) (a : Addr) (o1 o2 o3 o4 o5 o6 o7 o8 : Obj) (h : (w.cell? a).isSome = true) : ((((((((w.alloc o1).alloc o2).alloc o3).alloc o4).alloc o5).alloc o6).alloc o7).alloc o8).cell? a = w.cell? a := by
  have hl := block_of_some h
  exact (World.cell?_alloc_lt (((((((w.alloc o1).alloc o2).alloc o3).alloc o4).alloc o5).alloc o6).alloc o7) _ a (by first | exact hl | (simp; omega) | omega)).trans (cellS7 w a o1 o2 o3 o4 o5 o6 o7 h)
theorem frozenS8 (w : World) (a : Addr) (o1 o2 o3 o4 o5 o6 o7 o8 : Obj) (h : (w.cell? a).isSome = true) : ((((((((w.alloc o1).alloc o2).alloc o3).alloc o4).alloc o5).alloc o6).alloc o7).alloc o8).frozen? a = w.frozen? a := by
  have hl := block_of_some h
  exact (World.frozen?_alloc_old (((((((w.alloc o1).alloc o2).alloc o3).alloc o4).alloc o5).alloc o6).alloc o7) _ a (by first | exact hl | (simp; omega) | omega)).trans (frozenS7 w a o1 o2 o3 o4 o5 o6 o7 h)
theorem ret_int {k : IntKind} {a b : Int} (h : a = b) : Ending.returned (.int k a) = .returned (.int k b) := by rw [h]
attribute [local go_sem] cellS1 frozenS1 cellS2 frozenS2 cellS3 frozenS3 cellS4 frozenS4 cellS5 frozenS5 cellS6 frozenS6 cellS7 frozenS7 cellS8 frozenS8
theorem quiet_add {P : Program} {f : FuncId} {args : Array Value} {w : World} {a n : Nat} {v : Value}
    (h : Calls P f args (w.drewN (a + n)) fun e w' => e = .returned v ∧ ∃ m, w' = (w.drewN (a + n)).drewN m) :
    Calls P f args (w.drewN (a + n)) fun e w'' => e = .returned v ∧ ∃ m, w'' = w.drewN (a + m) :=
  h.mono fun _ _ ⟨he, m, hm⟩ => ⟨he, n + m, by rw [hm, World.drewN_drewN, Nat.add_assoc]⟩
theorem quiet_add_same {P : Program} {f : FuncId} {args : Array Value} {w : World} {a n : Nat} {v : Value}
    (h : Calls P f args (w.drewN (a + n)) fun e w' => e = .returned v ∧ w' = w.drewN (a + n)) :
    Calls P f args (w.drewN (a + n)) fun e w'' => e = .returned v ∧ ∃ m, w'' = w.drewN (a + m) :=
  h.mono fun _ _ ⟨he, hm⟩ => ⟨he, n, hm⟩
theorem quiet_add_left {P : Program} {f : FuncId} {args : Array Value} {w : World} {a n : Nat} {v : Value}
    (h : Calls P f args (w.drewN (a + n)) fun e w' => e = .returned v ∧ w.drewN (a + n) = w') :
    Calls P f args (w.drewN (a + n)) fun e w'' => e = .returned v ∧ ∃ m, w'' = w.drewN (a + m) :=
  h.mono fun _ _ ⟨he, hm⟩ => ⟨he, n, hm.symm⟩
theorem quiet_left {P : Program} {f : FuncId} {args : Array Value} {w : World} {n : Nat} {v : Value}
    (h : Calls P f args (w.drewN n) fun e w' => e = .returned v ∧ w.drewN n = w') : Calls P f args (w.drewN n) fun e w'' => e = .returned v ∧ ∃ m, w'' = w.drewN m :=
  h.mono fun _ _ ⟨he, hm⟩ => ⟨he, n, hm.symm⟩

def clk (w : World) (b : Nat) (s hd t o : Int) : Prop := w.heap[b]? = some (.cells #[.int .i64 s, .int .i64 hd, .int .i64 t, .int .i64 o, .bool true] 37 (0, 0))
theorem isTime_any (t : Int) (w : World) : Calls Try.prog 20 #[.int .i64 t] w fun e w' => e = .returned (.bool (decide (0 ≤ t) && decide (t ≤ 1099511627776))) ∧ w' = w := by
  by_cases h : 0 ≤ t
  · go_enter Try.func20, Try.ntmps20
    go_wp2
    go_ret
    exact ⟨by simp [h], rfl⟩
  · go_enter Try.func20, Try.ntmps20
    go_wp2
    go_ret
    exact ⟨by rw [decide_eq_false (by omega)]; rfl, rfl⟩
theorem new_ok (s : Int) (w : World) (h0 : 0 ≤ s) (h1 : s ≤ 49) :
    Calls Try.prog 7 #[.int .i64 s] w fun e w' => e = .returned (.tuple #[.pointer (some ⟨w.heap.size, 0, none⟩), .int .i64 0]) ∧ w' = w.alloc (.cells #[.int .i64 s, .int .i64 0, .int .i64 0, .int .i64 0, .bool true] 37 (0, 0)) := by
  go_enter Try.func7, Try.ntmps7
  go_wp2
  go_ret2
  exact ⟨rfl, rfl⟩
theorem new_no (s : Int) (w : World) (h : s < 0 ∨ 49 < s) :
    Calls Try.prog 7 #[.int .i64 s] w fun e w' => e = .returned (.tuple #[.pointer none, .int .i64 1]) ∧ w' = w := by
  rcases h with h | h
  · go_enter Try.func7, Try.ntmps7
    go_wp2
    go_ret2
    exact ⟨rfl, rfl⟩
  · have h2 : ¬ s < 0 := by omega
    go_enter Try.func7, Try.ntmps7
    go_wp2
    go_ret2
    exact ⟨rfl, rfl⟩
theorem now_ok (b : Nat) (s hd t o : Int) (w : World) (h : clk w b s hd t o) :
    Calls Try.prog 9 #[.pointer (some ⟨b, 0, none⟩)] w fun e w' => e = .returned (.int .i64 t) ∧ w' = w := by
  have c2 : w.cell? ⟨b, 2, none⟩ = some (.int .i64 t) := (blk_cell h 2).trans rfl
  have c4 : w.cell? ⟨b, 4, none⟩ = some (.bool true) := (blk_cell h 4).trans rfl
  clear h
  go_enter Try.func9, Try.ntmps9
  go_wp2
  go_ret
  exact ⟨rfl, rfl⟩
theorem hard_ok (b : Nat) (s hd t o : Int) (w : World) (h : clk w b s hd t o) :
    Calls Try.prog 10 #[.pointer (some ⟨b, 0, none⟩)] w fun e w' => e = .returned (.int .i64 hd) ∧ w' = w := by
  have c2 : w.cell? ⟨b, 1, none⟩ = some (.int .i64 hd) := (blk_cell h 1).trans rfl
  have c4 : w.cell? ⟨b, 4, none⟩ = some (.bool true) := (blk_cell h 4).trans rfl
  clear h
  go_enter Try.func10, Try.ntmps10
  go_wp2
  go_ret
  exact ⟨rfl, rfl⟩
theorem owed_ok (b : Nat) (s hd t o : Int) (w : World) (h : clk w b s hd t o) :
    Calls Try.prog 13 #[.pointer (some ⟨b, 0, none⟩)] w fun e w' => e = .returned (.int .i64 o) ∧ w' = w := by
  have c2 : w.cell? ⟨b, 3, none⟩ = some (.int .i64 o) := (blk_cell h 3).trans rfl
  have c4 : w.cell? ⟨b, 4, none⟩ = some (.bool true) := (blk_cell h 4).trans rfl
  clear h
  go_enter Try.func13, Try.ntmps13
  go_wp2
  go_ret
  exact ⟨rfl, rfl⟩
theorem adjust_ok (b : Nat) (s hd t o n : Int) (w : World) (h : clk w b s hd t o) (h0 : -1099511627776 ≤ n) (h1 : n ≤ 1099511627776) :
    Calls Try.prog 8 #[.pointer (some ⟨b, 0, none⟩), .int .i64 n] w fun e w' => e = .returned (.int .i64 0) ∧ clk w' b s hd t n ∧ Upd (· = b) w w' := by
  have HC := Lib.hid (show clk w b s hd t o from h)
  have c3 : w.cell? ⟨b, 3, none⟩ = some (.int .i64 o) := (blk_cell h 3).trans rfl
  have c4 : w.cell? ⟨b, 4, none⟩ = some (.bool true) := (blk_cell h 4).trans rfl
  have f3 : w.frozen? ⟨b, 3, none⟩ = false := blk_frozen h 3
  clear h
  go_enter Try.func8, Try.ntmps8
  go_wp2
  go_ret
  exact ⟨rfl, blk_put HC.out 3 _ rfl, (Upd.refl _ _).setCell (by exact .inl rfl) _⟩
theorem adjust_no (b : Nat) (s hd t o n : Int) (w : World) (h : clk w b s hd t o) (h0 : n < -1099511627776 ∨ 1099511627776 < n) :
    Calls Try.prog 8 #[.pointer (some ⟨b, 0, none⟩), .int .i64 n] w fun e w' => e = .returned (.int .i64 1) ∧ w' = w := by
  have c4 : w.cell? ⟨b, 4, none⟩ = some (.bool true) := (blk_cell h 4).trans rfl
  clear h
  rcases h0 with h0 | h0
  · go_enter Try.func8, Try.ntmps8
    go_wp2
    go_ret
    exact ⟨rfl, rfl⟩
  · have h2 : ¬ n < -1099511627776 := by omega
    go_enter Try.func8, Try.ntmps8
    go_wp2
    go_ret
    exact ⟨rfl, rfl⟩
theorem set_ok (b : Nat) (s hd t o n : Int) (w : World) (h : clk w b s hd t o) (h0 : 0 ≤ n) (h1 : n ≤ 1099511627776) :
    Calls Try.prog 14 #[.pointer (some ⟨b, 0, none⟩), .int .i64 n] w fun e w' => e = .returned (.int .i64 0) ∧ clk w' b s hd n 0 ∧ Upd (· = b) w w' := by
  have HC := Lib.hid (show clk w b s hd t o from h)
  have c2 : w.cell? ⟨b, 2, none⟩ = some (.int .i64 t) := (blk_cell h 2).trans rfl
  have c3 : w.cell? ⟨b, 3, none⟩ = some (.int .i64 o) := (blk_cell h 3).trans rfl
  have c4 : w.cell? ⟨b, 4, none⟩ = some (.bool true) := (blk_cell h 4).trans rfl
  have f2 : w.frozen? ⟨b, 2, none⟩ = false := blk_frozen h 2
  have f3 : w.frozen? ⟨b, 3, none⟩ = false := blk_frozen h 3
  clear h
  go_enter Try.func14, Try.ntmps14
  go_wp2
  go_ret
  exact ⟨rfl, blk_put (blk_put HC.out 2 _ rfl) 3 _ rfl, ((Upd.refl _ _).setCell (by exact .inl rfl) _).setCell (by exact .inl rfl) _⟩
theorem set_no (b : Nat) (s hd t o n : Int) (w : World) (h : clk w b s hd t o) (h0 : n < 0 ∨ 1099511627776 < n) :
    Calls Try.prog 14 #[.pointer (some ⟨b, 0, none⟩), .int .i64 n] w fun e w' => e = .returned (.int .i64 1) ∧ w' = w := by
  have c4 : w.cell? ⟨b, 4, none⟩ = some (.bool true) := (blk_cell h 4).trans rfl
  clear h
  rcases h0 with h0 | h0
  · go_enter Try.func14, Try.ntmps14
    go_wp2
    go_ret
    exact ⟨rfl, rfl⟩
  · have h2 : ¬ n < 0 := by omega
    have h3 : decide (n ≤ 1099511627776) = false := decide_eq_false (by omega)
    go_enter Try.func14, Try.ntmps14
    go_wp2
    go_ret
    exact ⟨rfl, rfl⟩
theorem none_cell (b : Nat) (w : World) (h : w.cell? ⟨b, 4, none⟩ = some (.bool true)) :
    Calls Try.prog 19 #[.pointer (some ⟨b, 0, none⟩)] w fun e w' => e = .returned (.bool false) ∧ w' = w := by
  go_enter Try.func19, Try.ntmps19
  go_wp2
  go_ret
  exact ⟨rfl, rfl⟩
theorem isTime_yes (t : Int) (w : World) (h0 : 0 ≤ t) (h1 : t ≤ 1099511627776) : Calls Try.prog 20 #[.int .i64 t] w fun e w' => e = .returned (.bool true) ∧ w' = w :=
  (isTime_any t w).mono fun e w' ⟨he, hw⟩ => ⟨by rw [he, decide_eq_true h0, decide_eq_true h1]; rfl, hw⟩
theorem isTime_no (t : Int) (w : World) (h : ¬ (0 ≤ t ∧ t ≤ 1099511627776)) : Calls Try.prog 20 #[.int .i64 t] w fun e w' => e = .returned (.bool false) ∧ w' = w :=
  (isTime_any t w).mono fun e w' ⟨he, hw⟩ => ⟨by
    rw [he]
    have : (decide (0 ≤ t) && decide (t ≤ 1099511627776)) = false := by simp; omega
    rw [this], hw⟩
theorem wp_gen {P : Program} {c : Code} {Q : Exit → Act → World → Prop} {a : Act} {w : World} (F : World → Prop) (hF : F w) (h : ∀ W, F W → Code.wp P c Q a W) : Code.wp P c Q a w := h w hF
def most (s n : Int) : Int := s * ((n + 50) / 100)
def pay (s o n : Int) : Int := min (max o (max (-most s n) (-n))) (most s n)
theorem most_bd (s n : Int) (h0 : 0 ≤ s) (h1 : s ≤ 49) (h2 : 0 ≤ n) (h3 : n ≤ 1099511627776) : 0 ≤ most s n ∧ most s n ≤ 1000000000000 := by
  unfold most
  have a := Int.mul_nonneg h0 (show 0 ≤ (n + 50) / 100 by omega)
  have b := Int.mul_le_mul h1 (show (n + 50) / 100 ≤ 10995116278 by omega) (by omega) (by omega)
  omega
theorem clamp_any (n l m : Int) (w : World) : Calls Try.prog 22 #[.int .i64 n, .int .i64 l, .int .i64 m] w fun e w' => e = .returned (.int .i64 (min (max n l) m)) ∧ w' = w := by
  go_enter Try.func22, Try.ntmps22
  go_wp2
  all_goals
    go_ret
    exact ⟨ret_int (by omega), rfl⟩
theorem pay_any (pc pb pn : Addr) (b : Nat) (s o n : Int) (w : World) (hc : w.cell? pc = some (.pointer (some ⟨b, 0, none⟩))) (hb : w.cell? pb = some (.int .i64 ((n + 50) / 100))) (hn : w.cell? pn = some (.int .i64 n))
    (c0 : w.cell? ⟨b, 0, none⟩ = some (.int .i64 s)) (c3 : w.cell? ⟨b, 3, none⟩ = some (.int .i64 o)) (s0 : 0 ≤ s) (s1 : s ≤ 49) (n0 : 0 ≤ n) (n1 : n ≤ 1099511627776) :
    Calls Try.prog 21 #[.pointer (some pc), .pointer (some pb), .pointer (some pn)] w fun e w' => e = .returned (.int .i64 (pay s o n)) ∧ ∃ k, w' = w.drewN k := by
  have hm := most_bd s n s0 s1 n0 n1
  unfold most at hm
  have e1 : wrap64 (s * ((n + 50) / 100)) = s * ((n + 50) / 100) := by unfold wrap64; omega
  unfold pay most
  go_enter Try.func21, Try.ntmps21
  go_wp2
  go_quiet (fail)
  go_wp2
  go_quiet ((first | (go_at_call 22; exact Calls.quiet_of_same (clamp_any _ _ _ _)) | (go_at_call 22; exact quiet_add_same (clamp_any _ _ _ _))))
  go_wp2
  all_goals
    go_ret
    exact ⟨ret_int (by omega), _, rfl⟩
theorem step_ok (b : Nat) (s hd t o n : Int) (w : World) (h : clk w b s hd t o) (s0 : 0 ≤ s) (s1 : s ≤ 49) (hd0 : 0 ≤ hd) (t0 : 0 ≤ t) (hd1 : hd ≤ 1099511627776) (t1 : t ≤ 1099511627776)
    (n0 : 0 ≤ n) (n1 : n ≤ 1099511627776) (o0 : -10000000000000 ≤ o) (o1 : o ≤ 10000000000000) (k0 : hd + n ≤ 1099511627776) (k1 : t + n + pay s o n ≤ 1099511627776) :
    Calls Try.prog 11 #[.pointer (some ⟨b, 0, none⟩), .int .i64 n] w fun e w' => e = .returned (.int .i64 0) ∧ clk w' b s (hd + n) (t + n + pay s o n) (o - pay s o n) ∧ Upd (· = b) w w' := by
  have hp : 0 ≤ t + n + pay s o n := by have := most_bd s n s0 s1 n0 n1; unfold pay; omega
  have hp1 : -1000000000000 ≤ pay s o n ∧ pay s o n ≤ 1000000000000 := by have := most_bd s n s0 s1 n0 n1; unfold pay; omega
  obtain ⟨hp1, hp2⟩ := hp1
  have HC := Lib.hid (show clk w b s hd t o from h)
  have HC0 := Lib.hid (show clk w b s hd t o from h)
  have c0 : w.cell? ⟨b, 0, none⟩ = some (.int .i64 s) := (blk_cell h 0).trans rfl
  have c1 : w.cell? ⟨b, 1, none⟩ = some (.int .i64 hd) := (blk_cell h 1).trans rfl
  have c2 : w.cell? ⟨b, 2, none⟩ = some (.int .i64 t) := (blk_cell h 2).trans rfl
  have c3 : w.cell? ⟨b, 3, none⟩ = some (.int .i64 o) := (blk_cell h 3).trans rfl
  have c4 : w.cell? ⟨b, 4, none⟩ = some (.bool true) := (blk_cell h 4).trans rfl
  have f1 : w.frozen? ⟨b, 1, none⟩ = false := blk_frozen h 1
  have f2 : w.frozen? ⟨b, 2, none⟩ = false := blk_frozen h 2
  have f3 : w.frozen? ⟨b, 3, none⟩ = false := blk_frozen h 3
  clear h
  go_enter Try.func11, Try.ntmps11
  go_wp2_with (first | (go_at_call 22; refine (clamp_any _ _ _ _).mono ?_; rintro e w' ⟨rfl, rfl⟩) | (go_at_call 19; refine (none_cell b _ ?hc).mono ?_; (case hc => go_simp); rintro e w' ⟨rfl, rfl⟩) | (go_at_call 20; refine (isTime_yes _ _ n0 n1).mono ?_; rintro e w' ⟨rfl, rfl⟩) | (go_at_call 21; refine (pay_any _ _ _ b s o n _ ?d1 ?d2 ?d3 ?d4 ?d5 s0 s1 n0 n1).mono ?_; (case d1 => go_simp); (case d2 => go_simp); (case d3 => go_simp); (case d4 => go_simp); (case d5 => go_simp); rintro e w' ⟨rfl, kd, rfl⟩))
  go_quiet ((first | (go_at_call 20; exact Calls.quiet_of_same (isTime_yes _ _ (by omega) (by omega))) | (go_at_call 20; exact quiet_add_same (isTime_yes _ _ (by omega) (by omega)))))
  go_wp2
  refine wp_gen (fun W => W.cell? ⟨w.heap.size, 0, none⟩ = some (.pointer (some ⟨b, 0, none⟩)) ∧ W.cell? ⟨w.heap.size + 1, 0, none⟩ = some (.int .i64 n) ∧ clk W b s hd t o ∧ Upd (· = b) w W ∧ w.heap.size + 1 < W.heap.size) ⟨by go_simp, by go_simp, HC.out |> (fun h => blk_drewN (blk_drewN (blk_alloc (blk_alloc (blk_alloc h _) _) _) _) _), (((((Upd.refl _ _).alloc _).alloc _).alloc _).drewN _).drewN _, by simp⟩ ?_
  rintro W ⟨p2, p3, h, hU, hz⟩
  clear HC c0 c1 c2 c3 c4 f1 f2 f3
  have HC := Lib.hid (show clk W b s hd t o from h)
  have HU := Lib.hid hU
  clear hU
  have c1 : W.cell? ⟨b, 1, none⟩ = some (.int .i64 hd) := (blk_cell h 1).trans rfl
  have c2 : W.cell? ⟨b, 2, none⟩ = some (.int .i64 t) := (blk_cell h 2).trans rfl
  have c3 : W.cell? ⟨b, 3, none⟩ = some (.int .i64 o) := (blk_cell h 3).trans rfl
  have f1 : W.frozen? ⟨b, 1, none⟩ = false := blk_frozen h 1
  have f2 : W.frozen? ⟨b, 2, none⟩ = false := blk_frozen h 2
  have f3 : W.frozen? ⟨b, 3, none⟩ = false := blk_frozen h 3
  clear h
  have hbw : b < w.heap.size := blk_lt HC0.out
  go_still_tail 8, (by kernel_rfl)
  go_wp2
  refine wp_gen (fun W' => W'.cell? ⟨w.heap.size, 0, none⟩ = some (.pointer (some ⟨b, 0, none⟩)) ∧ W'.cell? ⟨w.heap.size + 1, 0, none⟩ = some (.int .i64 n) ∧ clk W' b s (hd + n) t o ∧ Upd (· = b) w W')
    ⟨(cell_far (by show w.heap.size ≠ b; omega) _).trans p2, (cell_far (by show w.heap.size + 1 ≠ b; omega) _).trans p3, blk_drew (blk_put HC.out 1 _ rfl), (HU.out.setCell (by exact .inl rfl) _).drew⟩ ?_
  clear c1 c2 c3 f1 f2 f3 HC HU p2 p3 hz
  rintro W2 ⟨p2, p3, h, hU⟩
  have HC := Lib.hid (show clk W2 b s (hd + n) t o from h)
  have HU := Lib.hid hU
  clear hU
  have c2 : W2.cell? ⟨b, 2, none⟩ = some (.int .i64 t) := (blk_cell h 2).trans rfl
  have c3 : W2.cell? ⟨b, 3, none⟩ = some (.int .i64 o) := (blk_cell h 3).trans rfl
  have f2 : W2.frozen? ⟨b, 2, none⟩ = false := blk_frozen h 2
  have f3 : W2.frozen? ⟨b, 3, none⟩ = false := blk_frozen h 3
  clear h
  go_still_tail 10, (by kernel_rfl)
  go_wp2
  go_ret
  refine ⟨rfl, ?_, ((HU.out.setCell (by exact .inl rfl) _).setCell (by exact .inl rfl) _).drew⟩
  rw [show t + (n + pay s o n) = t + n + pay s o n from by omega]
  exact blk_drew (blk_put (blk_put HC.out 2 _ rfl) 3 _ rfl)
theorem step_arg (b : Nat) (s hd t o n : Int) (w : World) (h : clk w b s hd t o) (hn : n < 0 ∨ 1099511627776 < n) :
    Calls Try.prog 11 #[.pointer (some ⟨b, 0, none⟩), .int .i64 n] w fun e w' => e = .returned (.int .i64 1) ∧ clk w' b s hd t o ∧ Upd (· = b) w w' := by
  have HC := Lib.hid (show clk w b s hd t o from h)
  have c4 : w.cell? ⟨b, 4, none⟩ = some (.bool true) := (blk_cell h 4).trans rfl
  clear h
  go_enter Try.func11, Try.ntmps11
  go_wp2_with (first | (go_at_call 19; refine (none_cell b _ ?hc).mono ?_; (case hc => go_simp); rintro e w' ⟨rfl, rfl⟩) | (go_at_call 20; refine (isTime_no _ _ (by omega)).mono ?_; rintro e w' ⟨rfl, rfl⟩))
  go_ret
  exact ⟨rfl, blk_alloc (blk_alloc HC.out _) _, ((Upd.refl _ _).alloc _).alloc _⟩
theorem step_full (b : Nat) (s hd t o n : Int) (w : World) (h : clk w b s hd t o) (s0 : 0 ≤ s) (s1 : s ≤ 49) (hd0 : 0 ≤ hd) (t0 : 0 ≤ t) (hd1 : hd ≤ 1099511627776) (t1 : t ≤ 1099511627776)
    (n0 : 0 ≤ n) (n1 : n ≤ 1099511627776) (o0 : -10000000000000 ≤ o) (o1 : o ≤ 10000000000000) (k0 : 1099511627776 < hd + n ∨ 1099511627776 < t + n + pay s o n) :
    Calls Try.prog 11 #[.pointer (some ⟨b, 0, none⟩), .int .i64 n] w fun e w' => e = .returned (.int .i64 9) ∧ clk w' b s hd t o ∧ Upd (· = b) w w' := by
  have hp : 0 ≤ t + n + pay s o n := by have := most_bd s n s0 s1 n0 n1; unfold pay; omega
  have hp1 : -1000000000000 ≤ pay s o n ∧ pay s o n ≤ 1000000000000 := by have := most_bd s n s0 s1 n0 n1; unfold pay; omega
  obtain ⟨hp1, hp2⟩ := hp1
  have HC := Lib.hid (show clk w b s hd t o from h)
  have c0 : w.cell? ⟨b, 0, none⟩ = some (.int .i64 s) := (blk_cell h 0).trans rfl
  have c1 : w.cell? ⟨b, 1, none⟩ = some (.int .i64 hd) := (blk_cell h 1).trans rfl
  have c2 : w.cell? ⟨b, 2, none⟩ = some (.int .i64 t) := (blk_cell h 2).trans rfl
  have c3 : w.cell? ⟨b, 3, none⟩ = some (.int .i64 o) := (blk_cell h 3).trans rfl
  have c4 : w.cell? ⟨b, 4, none⟩ = some (.bool true) := (blk_cell h 4).trans rfl
  clear h
  by_cases k1 : 1099511627776 < hd + n
  · clear k0
    go_enter Try.func11, Try.ntmps11
    go_wp2_with (first | (go_at_call 22; refine (clamp_any _ _ _ _).mono ?_; rintro e w' ⟨rfl, rfl⟩) | (go_at_call 19; refine (none_cell b _ ?hc).mono ?_; (case hc => go_simp); rintro e w' ⟨rfl, rfl⟩) | (go_at_call 20; refine (isTime_yes _ _ n0 n1).mono ?_; rintro e w' ⟨rfl, rfl⟩) | (go_at_call 21; refine (pay_any _ _ _ b s o n _ ?d1 ?d2 ?d3 ?d4 ?d5 s0 s1 n0 n1).mono ?_; (case d1 => go_simp); (case d2 => go_simp); (case d3 => go_simp); (case d4 => go_simp); (case d5 => go_simp); rintro e w' ⟨rfl, kd, rfl⟩))
    go_quiet ((first | (go_at_call 20; exact Calls.quiet_of_same (isTime_no _ _ (by omega))) | (go_at_call 20; exact quiet_add_same (isTime_no _ _ (by omega)))))
    go_wp2
    go_ret
    exact ⟨rfl, blk_drewN (w := World.drewN _ _) (blk_drewN (blk_alloc (blk_alloc (blk_alloc HC.out _) _) _) _) _, (((((Upd.refl _ _).alloc _).alloc _).alloc _).drewN _).drewN _⟩
  · have k2 : 1099511627776 < t + n + pay s o n := by omega
    have k3 : hd + n ≤ 1099511627776 := by omega
    clear k0 k1
    go_enter Try.func11, Try.ntmps11
    go_wp2_with (first | (go_at_call 22; refine (clamp_any _ _ _ _).mono ?_; rintro e w' ⟨rfl, rfl⟩) | (go_at_call 19; refine (none_cell b _ ?hc).mono ?_; (case hc => go_simp); rintro e w' ⟨rfl, rfl⟩) | (go_at_call 20; refine (isTime_yes _ _ n0 n1).mono ?_; rintro e w' ⟨rfl, rfl⟩) | (go_at_call 21; refine (pay_any _ _ _ b s o n _ ?d1 ?d2 ?d3 ?d4 ?d5 s0 s1 n0 n1).mono ?_; (case d1 => go_simp); (case d2 => go_simp); (case d3 => go_simp); (case d4 => go_simp); (case d5 => go_simp); rintro e w' ⟨rfl, kd, rfl⟩))
    go_quiet ((first | (go_at_call_of 20 (Value.int .i64 (hd + n)); exact quiet_add_same (isTime_yes _ _ (by omega) (by omega))) | (go_at_call 20; exact quiet_add_same (isTime_no _ _ (by omega)))))
    go_wp2
    go_ret
    exact ⟨rfl, blk_drewN (w := World.drewN _ _) (blk_drewN (blk_alloc (blk_alloc (blk_alloc HC.out _) _) _) _) _, (((((Upd.refl _ _).alloc _).alloc _).alloc _).drewN _).drewN _⟩
theorem new_any (s : Int) (w : World) (h0 : 0 ≤ s) (h1 : s ≤ 49) :
    Calls Try.prog 7 #[.int .i64 s] w fun e w' => ∃ b, e = .returned (.tuple #[.pointer (some ⟨b, 0, none⟩), .int .i64 0]) ∧ clk w' b s 0 0 0 ∧ w.heap.size ≤ b ∧ Upd (fun _ => False) w w' :=
  (new_ok s w h0 h1).mono fun e w' ⟨he, hw⟩ => ⟨w.heap.size, he, by rw [hw]; exact blk_new _ _, Nat.le_refl _, by rw [hw]; exact (Upd.refl _ _).alloc _⟩
theorem adjust_any (b : Nat) (s hd t o n : Int) (w : World) (h : clk w b s hd t o) (o0 : -10000000000000 ≤ o) (o1 : o ≤ 10000000000000) :
    Calls Try.prog 8 #[.pointer (some ⟨b, 0, none⟩), .int .i64 n] w fun e w' => ∃ r o' : Int, e = .returned (.int .i64 r) ∧ clk w' b s hd t o' ∧ -10000000000000 ≤ o' ∧ o' ≤ 10000000000000 ∧ Upd (· = b) w w' := by
  by_cases hn : -1099511627776 ≤ n ∧ n ≤ 1099511627776
  · refine (adjust_ok b s hd t o n w h hn.1 hn.2).mono ?_
    rintro e w' ⟨rfl, h1, h2⟩
    exact ⟨_, _, rfl, h1, by omega, by omega, h2⟩
  · refine (adjust_no b s hd t o n w h (by omega)).mono ?_
    rintro e w' ⟨rfl, rfl⟩
    exact ⟨_, _, rfl, h, o0, o1, Upd.refl _ _⟩
theorem awake_ok (w : World) : Calls Try.prog 12 #[] w fun e w' => e = .returned (.bool true) ∧ Below w.heap.size w w' := by
  go_enter Try.func12, Try.ntmps12
  go_wp2_with (first | (go_at_call 7; refine (new_any _ _ (by omega) (by omega)).mono ?_; rintro e w1 ⟨b, rfl, h1, hb1, hU1⟩) | (go_at_call 8; refine (adjust_ok b _ _ _ _ _ _ h1 (by omega) (by omega)).mono ?_; rintro e w2 ⟨rfl, h2, hU2⟩) | (go_at_call 11; refine (step_ok b _ _ _ _ _ _ h2 (by omega) (by omega) (by omega) (by omega) (by omega) (by omega) (by omega) (by omega) (by omega) (by omega) (by omega) (by decide)).mono ?_; rintro e w3 ⟨rfl, h3, hU3⟩) | (go_at_call 9; refine (now_ok b _ _ _ _ _ h3).mono ?_; rintro e w' ⟨rfl, rfl⟩) | (go_at_call 13; refine (owed_ok b _ _ _ _ _ h3).mono ?_; rintro e w' ⟨rfl, rfl⟩))
  go_ret
  exact ⟨by rw [show (102 : Int) = 0 + 100 + pay 2 5 100 from by decide, show (3 : Int) = 5 - pay 2 5 100 from by decide]; simp, Upd.to_below (Upd.to_below (Upd.to_below (Below.refl _ _) hU1 (Nat.le_refl _) (fun _ h => h.elim)) hU2 (Nat.le_refl _) (by rintro _ rfl; exact hb1)) hU3 (Nat.le_refl _) (by rintro _ rfl; exact hb1)⟩
end Go.Proofs.Ytecekplcahllhaa.Osc
