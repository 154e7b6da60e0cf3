/- Numbers in order, and what put comes to. -/
import Derived.Test.YtpdjobbpaldkcaaProg
import Derived.Below
import Derived.Deep.Draws
import Derived.Deep.AppendLies
import Derived.Maps.AppendAt
import Derived.OwnWalk
import Derived.Laws.BytesArg
import Derived.Laws.MakeOwn
import Derived.Laws.OwnMore
import Derived.Deep.OwnRows
import Derived.Tactics
import Derived.Lib.ConvBytes
import Derived.Laws.Slices
import Derived.WalkKit
import Derived.KernelRfl
import Derived.RowKit3
import Derived.Deep.LoopGhost
import Derived.Deep.QuietTactic
import Derived.BigQuiet
import Derived.WideLaws
import Derived.Deep.DeepCutAuto
import Derived.Deep.CutBlock
import Derived.Deep.RegionHeld3
import Derived.Laws.Rows
import Derived.Lib.AppendStr
import Derived.ArgAppend
import Derived.Laws.IdiomCopy
import Derived.OrdersHeld
import Derived.Laws.BitsLemmas
import Derived.RowKit
import Derived.RegionTactic
import Derived.ChangeAlike
import Derived.Outline
import Derived.LoopTactic
import Derived.WalkSpells
import Derived.WalkLawsBesides
import Derived.Lib.Hide
import Derived.StillTailTactics
import Derived.Deep.RegionWith
import Derived.Deep.RegionLaw
import Derived.Deep.DeepFit
import Derived.Deep.DeepMust
import Derived.Test.YtpdjobbpaldkcaaWWords
import Derived.Test.YtpdjobbpaldkcaaWLast
import Derived.Test.YtpdjobbpaldkcaaWTab
import Derived.Test.YtpdjobbpaldkcaaWFour
import Derived.Test.YtpdjobbpaldkcaaWQPut
import Derived.Test.YtpdjobbpaldkcaaWApart
import Derived.Test.YtpdjobbpaldkcaaWArr
import Derived.Test.YtpdjobbpaldkcaaWZeros
import Derived.Test.YtpdjobbpaldkcaaWFoot
import Derived.Test.YtpdjobbpaldkcaaWKept
import Derived.Test.YtpdjobbpaldkcaaWShare
import Derived.Test.YtpdjobbpaldkcaaWN
import Derived.Test.YtpdjobbpaldkcaaWFootNe
import Derived.Test.YtpdjobbpaldkcaaWAt
import Derived.Test.YtpdjobbpaldkcaaWEqStruct
import Derived.Test.YtpdjobbpaldkcaaWRepsOne
import Derived.Test.YtpdjobbpaldkcaaWInv
import Derived.Test.YtpdjobbpaldkcaaWInvWords
import Derived.Test.YtpdjobbpaldkcaaWGuard
import Derived.Test.YtpdjobbpaldkcaaWNEv
import Derived.Test.YtpdjobbpaldkcaaWMore
import Derived.Test.YtpdjobbpaldkcaaQFtmx1
namespace Go.Proofs.Ytpdjobbpaldkcaa.Ftm1
open Go.RowKit Go.Proofs.YtpdjobbpaldkcaaW.PrintWords Go.Proofs.YtpdjobbpaldkcaaW.PrintLast Go.Proofs.YtpdjobbpaldkcaaW.PrintMore 
attribute [local go_sem] max2_int min2_int max_two min_two max_three min_three max_four min_four
set_option linter.unusedVariables false
set_option linter.unusedSimpArgs false
/-- w' is w, but for the blocks in S and for new blocks. -/
structure Upd (S : Nat → Prop) (w w' : World) : Prop where
  os : w'.os = w.os
  tape : w'.tape = w.tape
  output : w'.output = w.output
  size : w.heap.size ≤ w'.heap.size
  block : ∀ k, k < w.heap.size → ¬ S k → w'.heap[k]? = w.heap[k]?
theorem Upd.refl (S : Nat → Prop) (w : World) : Upd S w w := ⟨rfl, rfl, rfl, Nat.le_refl _, fun _ _ _ => rfl⟩
theorem Upd.trans {S : Nat → Prop} {a b c : World} (h : Upd S a b) (k : Upd S b c) : Upd S a c :=
  ⟨k.os.trans h.os, k.tape.trans h.tape, k.output.trans h.output, Nat.le_trans h.size k.size, fun i hi hs => (k.block i (Nat.lt_of_lt_of_le hi h.size) hs).trans (h.block i hi hs)⟩
theorem Upd.mono {S T : Nat → Prop} {a b : World} (h : Upd S a b) (hS : ∀ k, k < a.heap.size → S k → T k) : Upd T a b :=
  ⟨h.os, h.tape, h.output, h.size, fun i hi hs => h.block i hi (fun x => hs (hS i hi x))⟩
theorem Upd.alloc {S : Nat → Prop} {a w : World} (h : Upd S a w) (o : Obj) : Upd S a (w.alloc o) :=
  ⟨h.os, h.tape, h.output, Nat.le_trans h.size (by simp), fun i hi hs => (Below.heap_alloc w o i (Nat.lt_of_lt_of_le hi h.size)).trans (h.block i hi hs)⟩
theorem Upd.setCell {S : Nat → Prop} {a w : World} (h : Upd S a w) {p : Addr} (hp : S p.block ∨ a.heap.size ≤ p.block) (u : Value) : Upd S a (w.setCell p u) :=
  ⟨h.os, h.tape, h.output, by simpa [World.setCell] using h.size, fun i hi hs => (Below.heap_setCell w p u i (by rintro rfl; rcases hp with x | x; exact hs x; omega)).trans (h.block i hi hs)⟩
theorem Upd.drew {S : Nat → Prop} {a w : World} (h : Upd S a w) : Upd S a w.drew := ⟨h.os, h.tape, h.output, h.size, h.block⟩
theorem Upd.drewN {S : Nat → Prop} {a w : World} (h : Upd S a w) (n : Nat) : Upd S a (w.drewN n) := ⟨h.os, h.tape, h.output, h.size, h.block⟩
theorem Upd.below {S : Nat → Prop} {a w : World} (h : Upd S a w) {B : Nat} (hB : B ≤ a.heap.size) (hS : ∀ k, S k → B ≤ k) : Below B a w :=
  ⟨h.os, h.tape, h.output, h.size, fun i hi => h.block i (by omega) (fun x => by have := hS i x; omega)⟩
theorem Upd.cellF {S : Nat → Prop} {a w : World} (h : Upd S a w) {p : Addr} {v : Value} (hc : a.cell? p = some v) (hs : ¬ S p.block) : w.cell? p = some v :=
  (World.cell?_of_block (w := a) (h.block p.block (World.block_lt_of_cell? a p hc) hs)).trans hc
theorem Upd.to_below {S : Nat → Prop} {z a w : World} {B : Nat} (h0 : Below B z a) (h : Upd S a w) (hB : B ≤ z.heap.size) (hS : ∀ k, S k → B ≤ k) : Below B z w :=
  h0.trans (h.below (Nat.le_trans hB h0.size) hS)
theorem Upd.of_below {S : Nat → Prop} {a w : World} (h : Below a.heap.size a w) : Upd S a w := ⟨h.os, h.tape, h.output, h.size, fun i hi _ => h.block i hi⟩
theorem Upd.far {S : Nat → Prop} {a w : World} (h : Upd S a w) {g : Nat} {o : Obj} (hg : a.heap[g]? = some o) (hs : ¬ S g) : w.heap[g]? = some o := (h.block g (blk_lt hg) hs).trans hg
theorem block_of_some {w : World} {a : Addr} (h : (w.cell? a).isSome = true) : a.block < w.heap.size := by
  obtain ⟨v, hv⟩ := Option.isSome_iff_exists.1 h
  exact World.block_lt_of_cell? w a hv
theorem cellS1 (w : World) (a : Addr) (o1 : Obj) (h : (w.cell? a).isSome = true) : (w.alloc o1).cell? a = w.cell? a := by
  have hl := block_of_some h
  exact (World.cell?_alloc_lt w _ a (by first | exact hl | (simp; omega) | omega)).trans (rfl)
theorem frozenS1 (w : World) (a : Addr) (o1 : Obj) (h : (w.cell? a).isSome = true) : (w.alloc o1).frozen? a = w.frozen? a := by
  have hl := block_of_some h
  exact (World.frozen?_alloc_old w _ a (by first | exact hl | (simp; omega) | omega)).trans (rfl)
theorem cellS2 (w : World) (a : Addr) (o1 o2 : Obj) (h : (w.cell? a).isSome = true) : ((w.alloc o1).alloc o2).cell? a = w.cell? a := by
  have hl := block_of_some h
  exact (World.cell?_alloc_lt (w.alloc o1) _ a (by first | exact hl | (simp; omega) | omega)).trans (cellS1 w a o1 h)
theorem frozenS2 (w : World) (a : Addr) (o1 o2 : Obj) (h : (w.cell? a).isSome = true) : ((w.alloc o1).alloc o2).frozen? a = w.frozen? a := by
  have hl := block_of_some h
  exact (World.frozen?_alloc_old (w.alloc o1) _ a (by first | exact hl | (simp; omega) | omega)).trans (frozenS1 w a o1 h)
theorem cellS3 (w : World) (a : Addr) (o1 o2 o3 : Obj) (h : (w.cell? a).isSome = true) : (((w.alloc o1).alloc o2).alloc o3).cell? a = w.cell? a := by
  have hl := block_of_some h
  exact (World.cell?_alloc_lt ((w.alloc o1).alloc o2) _ a (by first | exact hl | (simp; omega) | omega)).trans (cellS2 w a o1 o2 h)
theorem frozenS3 (w : World) (a : Addr) (o1 o2 o3 : Obj) (h : (w.cell? a).isSome = true) : (((w.alloc o1).alloc o2).alloc o3).frozen? a = w.frozen? a := by
  have hl := block_of_some h
  exact (World.frozen?_alloc_old ((w.alloc o1).alloc o2) _ a (by first | exact hl | (simp; omega) | omega)).trans (frozenS2 w a o1 o2 h)
theorem cellS4 (w : World) (a : Addr) (o1 o2 o3 o4 : Obj) (h : (w.cell? a).isSome = true) : ((((w.alloc o1).alloc o2).alloc o3).alloc o4).cell? a = w.cell? a := by
  have hl := block_of_some h
  exact (World.cell?_alloc_lt (((w.alloc o1).alloc o2).alloc o3) _ a (by first | exact hl | (simp; omega) | omega)).trans (cellS3 w a o1 o2 o3 h)
theorem frozenS4 (w : World) (a : Addr) (o1 o2 o3 o4 : Obj) (h : (w.cell? a).isSome = true) : ((((w.alloc o1).alloc o2).alloc o3).alloc o4).frozen? a = w.frozen? a := by
  have hl := block_of_some h
  exact (World.frozen?_alloc_old (((w.alloc o1).alloc o2).alloc o3) _ a (by first | exact hl | (simp; omega) | omega)).trans (frozenS3 w a o1 o2 o3 h)
theorem cellS5 (w : World) (a : Addr) (o1 o2 o3 o4 o5 : Obj) (h : (w.cell? a).isSome = true) : (((((w.alloc o1).alloc o2).alloc o3).alloc o4).alloc o5).cell? a = w.cell? a := by
  have hl := block_of_some h
  exact (World.cell?_alloc_lt ((((w.alloc o1).alloc o2).alloc o3).alloc o4) _ a (by first | exact hl | (simp; omega) | omega)).trans (cellS4 w a o1 o2 o3 o4 h)
theorem frozenS5 (w : World) (a : Addr) (o1 o2 o3 o4 o5 : Obj) (h : (w.cell? a).isSome = true) : (((((w.alloc o1).alloc o2).alloc o3).alloc o4).alloc o5).frozen? a = w.frozen? a := by
  have hl := block_of_some h
  exact (World.frozen?_alloc_old ((((w.alloc o1).alloc o2).alloc o3).alloc o4) _ a (by first | exact hl | (simp; omega) | omega)).trans (frozenS4 w a o1 o2 o3 o4 h)
theorem cellS6 (w : World) (a : Addr) (o1 o2 o3 o4 o5 o6 : Obj) (h : (w.cell? a).isSome = true) : ((((((w.alloc o1).alloc o2).alloc o3).alloc o4).alloc o5).alloc o6).cell? a = w.cell? a := by
  have hl := block_of_some h
  exact (World.cell?_alloc_lt (((((w.alloc o1).alloc o2).alloc o3).alloc o4).alloc o5) _ a (by first | exact hl | (simp; omega) | omega)).trans (cellS5 w a o1 o2 o3 o4 o5 h)
theorem frozenS6 (w : World) (a : Addr) (o1 o2 o3 o4 o5 o6 : Obj) (h : (w.cell? a).isSome = true) : ((((((w.alloc o1).alloc o2).alloc o3).alloc o4).alloc o5).alloc o6).frozen? a = w.frozen? a := by
  have hl := block_of_some h
  exact (World.frozen?_alloc_old (((((w.alloc o1).alloc o2).alloc o3).alloc o4).alloc o5) _ a (by first | exact hl | (simp; omega) | omega)).trans (frozenS5 w a o1 o2 o3 o4 o5 h)
theorem cellS7 (w : World) (a : Addr) (o1 o2 o3 o4 o5 o6 o7 : Obj) (h : (w.cell? a).isSome = true) : (((((((w.alloc o1).alloc o2).alloc o3).alloc o4).alloc o5).alloc o6).alloc o7).cell? a = w.cell? a := by
  have hl := block_of_some h
  exact (World.cell?_alloc_lt ((((((w.alloc o1).alloc o2).alloc o3).alloc o4).alloc o5).alloc o6) _ a (by first | exact hl | (simp; omega) | omega)).trans (cellS6 w a o1 o2 o3 o4 o5 o6 h)
theorem frozenS7 (w : World) (a : Addr) (o1 o2 o3 o4 o5 o6 o7 : Obj) (h : (w.cell? a).isSome = true) : (((((((w.alloc o1).alloc o2).alloc o3).alloc o4).alloc o5).alloc o6).alloc o7).frozen? a = w.frozen? a := by
  have hl := block_of_some h
  exact (World.frozen?_alloc_old ((((((w.alloc o1).alloc o2).alloc o3).alloc o4).alloc o5).alloc o6) _ a (by first | exact hl | (simp; omega) | omega)).trans (frozenS6 w a o1 o2 o3 o4 o5 o6 h)
theorem cellS8 (w : World) (a : Addr) (o1 o2 o3 o4 o5 o6 o7 o8 : Obj) (h : (w.cell? a).isSome = true) : ((((((((w.alloc o1).alloc o2).alloc o3).alloc o4).alloc o5).alloc o6).alloc o7).alloc o8).cell? a = w.cell? a := by
  have hl := block_of_some h
  exact (World.cell?_alloc_lt (((((((w.alloc o1).alloc o2).alloc o3).alloc o4).alloc o5).alloc o6).alloc o7) _ a (by first | exact hl | (simp; omega) | omega)).trans (cellS7 w a o1 o2 o3 o4 o5 o6 o7 h)
theorem frozenS8 (w : World) (a : Addr) (o1 o2 o3 o4 o5 o6 o7 o8 : Obj) (h : (w.cell? a).isSome = true) : ((((((((w.alloc o1).alloc o2).alloc o3).alloc o4).alloc o5).alloc o6).alloc o7).alloc o8).frozen? a = w.frozen? a := by
  have hl := block_of_some h
  exact (World.frozen?_alloc_old (((((((w.alloc o1).alloc o2).alloc o3).alloc o4).alloc o5).alloc o6).alloc o7) _ a (by first | exact hl | (simp; omega) | omega)).trans (frozenS7 w a o1 o2 o3 o4 o5 o6 o7 h)
theorem ret_int {k : IntKind} {a b : Int} (h : a = b) : Ending.returned (.int k a) = .returned (.int k b) := by rw [h]
attribute [local go_sem] cellS1 frozenS1 cellS2 frozenS2 cellS3 frozenS3 cellS4 frozenS4 cellS5 frozenS5 cellS6 frozenS6 cellS7 frozenS7 cellS8 frozenS8
theorem quiet_add {P : Program} {f : FuncId} {args : Array Value} {w : World} {a n : Nat} {v : Value}
    (h : Calls P f args (w.drewN (a + n)) fun e w' => e = .returned v ∧ ∃ m, w' = (w.drewN (a + n)).drewN m) :
    Calls P f args (w.drewN (a + n)) fun e w'' => e = .returned v ∧ ∃ m, w'' = w.drewN (a + m) :=
  h.mono fun _ _ ⟨he, m, hm⟩ => ⟨he, n + m, by rw [hm, World.drewN_drewN, Nat.add_assoc]⟩
theorem quiet_add_same {P : Program} {f : FuncId} {args : Array Value} {w : World} {a n : Nat} {v : Value}
    (h : Calls P f args (w.drewN (a + n)) fun e w' => e = .returned v ∧ w' = w.drewN (a + n)) :
    Calls P f args (w.drewN (a + n)) fun e w'' => e = .returned v ∧ ∃ m, w'' = w.drewN (a + m) :=
  h.mono fun _ _ ⟨he, hm⟩ => ⟨he, n, hm⟩
theorem quiet_add_left {P : Program} {f : FuncId} {args : Array Value} {w : World} {a n : Nat} {v : Value}
    (h : Calls P f args (w.drewN (a + n)) fun e w' => e = .returned v ∧ w.drewN (a + n) = w') :
    Calls P f args (w.drewN (a + n)) fun e w'' => e = .returned v ∧ ∃ m, w'' = w.drewN (a + m) :=
  h.mono fun _ _ ⟨he, hm⟩ => ⟨he, n, hm.symm⟩
theorem quiet_left {P : Program} {f : FuncId} {args : Array Value} {w : World} {n : Nat} {v : Value}
    (h : Calls P f args (w.drewN n) fun e w' => e = .returned v ∧ w.drewN n = w') : Calls P f args (w.drewN n) fun e w'' => e = .returned v ∧ ∃ m, w'' = w.drewN m :=
  h.mono fun _ _ ⟨he, hm⟩ => ⟨he, n, hm.symm⟩
open Go.Proofs.Ytpdjobbpaldkcaa.QFtm
/-- A number in its place among others: ahead of the first that is greater. -/
def ins (x : Int) : List Int → List Int
  | [] => [x]
  | y :: t => if x < y then x :: y :: t else y :: ins x t
theorem ins_length (x : Int) (l : List Int) : (ins x l).length = l.length + 1 := by
  induction l with
  | nil => rfl
  | cons y t ih => unfold ins; split <;> simp [ih]
theorem ins_split (x : Int) (a b : List Int) (ha : ∀ y ∈ a, y ≤ x) (hb : ∀ y ∈ b, x < y) : ins x (a ++ b) = a ++ x :: b := by
  induction a with
  | nil =>
    cases b with
    | nil => rfl
    | cons y t => simp only [List.nil_append, ins]; rw [if_pos (hb y (by simp))]
  | cons y t ih =>
    simp only [List.cons_append, ins]
    rw [if_neg (by have := ha y (by simp); omega), ih (fun z hz => ha z (by simp [hz]))]
theorem ins_perm (x : Int) (l : List Int) : List.Perm (ins x l) (x :: l) := by
  induction l with
  | nil => exact List.Perm.refl _
  | cons y t ih =>
    unfold ins
    split
    · exact List.Perm.refl _
    · exact (ih.cons y).trans (List.Perm.swap x y t)
def Sorted (l : List Int) : Prop := l.Pairwise (· ≤ ·)
theorem ins_sorted (x : Int) (l : List Int) (h : Sorted l) : Sorted (ins x l) := by
  induction l with
  | nil => simp [ins, Sorted]
  | cons y t ih =>
    unfold Sorted at *
    rw [List.pairwise_cons] at h
    unfold ins
    split
    · rename_i hx
      rw [List.pairwise_cons, List.pairwise_cons]
      exact ⟨fun z hz => by
        rcases List.mem_cons.1 hz with rfl | hz
        · omega
        · have := h.1 z hz; omega, h.1, h.2⟩
    · rename_i hx
      rw [List.pairwise_cons]
      exact ⟨fun z hz => by
        rcases List.mem_cons.1 ((ins_perm x t).mem_iff.1 hz) with rfl | hz
        · omega
        · exact h.1 z hz, ih h.2⟩
/-- All numbers in order. -/
def srt (l : List Int) : List Int := l.foldl (fun s x => ins x s) []
theorem srt_snoc (l : List Int) (x : Int) : srt (l ++ [x]) = ins x (srt l) := by simp [srt, List.foldl_append]
theorem srt_props (l : List Int) : Sorted (srt l) ∧ List.Perm (srt l) l := by
  induction h : l.length generalizing l with
  | zero => rw [List.length_eq_zero_iff.1 h]; exact ⟨List.Pairwise.nil, List.Perm.refl _⟩
  | succ n ih =>
    obtain ⟨a, x, rfl⟩ : ∃ a x, l = a ++ [x] := ⟨l.dropLast, l.getLast (by intro e; simp [e] at h), (List.dropLast_concat_getLast _).symm⟩
    obtain ⟨h1, h2⟩ := ih a (by simpa using h)
    rw [srt_snoc]
    exact ⟨ins_sorted x _ h1, (ins_perm x _).trans ((h2.cons x).trans (List.perm_append_comm (l₁ := [x])))⟩
theorem srt_length (l : List Int) : (srt l).length = l.length := (srt_props l).2.length_eq
theorem w64 {n : Int} (h0 : -9223372036854775808 ≤ n) (h1 : n ≤ 9223372036854775807) : wrap64 n = n := by unfold wrap64; omega
theorem rd_at (l : List Int) (i : Nat) (h : i < l.length) : rd l (i : Int) = l[i] := by
  unfold rd; rw [Int.toNat_natCast, List.getD_eq_getElem?_getD, List.getElem?_eq_getElem h]; rfl
/-- From a place on, the loop of put puts x where it belongs. -/
theorem put_loop (l : List Int) (x : Int) (hs : Sorted l) (hl : l.length < 17592186044416) (m : Nat) : ∀ (k : Nat) (L : List Int), m < k → m ≤ l.length → L.length = l.length + 1 → L.take m = l.take m → L.drop (m + 1) = l.drop m → (∀ y ∈ l.drop m, x < y) →
    ftm_put_int64.l0 k L x (m : Int) = some (ins x l) := by
  induction m with
  | zero =>
    intro k L hk hm hL ht hd hg
    obtain ⟨k, rfl⟩ : ∃ q, k = q + 1 := ⟨k - 1, by omega⟩
    simp only [ftm_put_int64.l0]
    rw [if_neg (by omega), if_pos (by omega), if_pos (by omega)]
    cases L with
    | nil => simp at hL
    | cons y t =>
      simp only [List.drop_succ_cons, List.drop_zero] at hd hg
      have : ins x l = x :: l := ins_split x [] l (by simp) hg
      rw [this]; simp [hd]
  | succ m ih =>
    intro k L hk hm hL ht hd hg
    obtain ⟨k, rfl⟩ : ∃ q, k = q + 1 := ⟨k - 1, by omega⟩
    have hml : m < l.length := by omega
    have hmL : m < L.length := by omega
    have e1 : wrap64 (((m + 1 : Nat) : Int) - 1) = (m : Int) := by rw [w64 (by omega) (by omega)]; omega
    have hLm : L[m] = l[m] := by
      have h1 : (L.take (m + 1))[m]'(by simp; omega) = L[m] := by simp
      have h2 : (l.take (m + 1))[m]'(by simp; omega) = l[m] := by simp
      rw [← h1, ← h2]; simp only [ht]
    simp only [ftm_put_int64.l0]
    rw [if_pos (by omega), e1, if_pos (by omega), if_pos (by omega), rd_at L m hmL, hLm]
    by_cases hc : l[m] ≤ x
    · rw [if_pos hc, if_pos (by omega), if_pos (by omega)]
      have hle : ∀ y ∈ l.take (m + 1), y ≤ x := by
        intro y hy
        obtain ⟨j, hj, rfl⟩ := List.getElem_of_mem hy
        have hj2 : j < m + 1 := by simp at hj; omega
        rw [List.getElem_take]
        by_cases hjm : j = m
        · subst hjm; exact hc
        · have := List.pairwise_iff_getElem.1 hs j m (by omega) hml (by omega); omega
      have hsp := ins_split x (l.take (m + 1)) (l.drop (m + 1)) hle hg
      rw [List.take_append_drop] at hsp
      rw [hsp, Int.toNat_natCast, List.set_eq_take_append_cons_drop, if_pos (by omega), ht, hd]
    · rw [if_neg hc, if_pos (by omega), if_pos (by omega), Int.toNat_natCast]
      refine ih k _ (by omega) (by omega) (by simpa using hL) ?_ ?_ ?_
      · rw [List.take_set_of_le (by omega)]
        have := congrArg (List.take m) ht
        simpa [List.take_take, Nat.min_eq_left (Nat.le_succ m)] using this
      · rw [List.set_eq_take_append_cons_drop, if_pos (by omega), List.drop_append, List.drop_of_length_le (by simp; omega), List.nil_append]
        have : (List.take (m + 1) L).length = m + 1 := by simp; omega
        rw [this, Nat.sub_self, List.drop_zero, hd]
        exact (List.drop_eq_getElem_cons hml).symm
      · intro y hy
        rw [List.drop_eq_getElem_cons hml] at hy
        rcases List.mem_cons.1 hy with rfl | hy
        · omega
        · exact hg y hy
theorem put_eq (l : List Int) (x : Int) (hs : Sorted l) (hl : l.length < 17592186044416) : ftm_put_int64.f (l.length + 1) l x = some (ins x l) := by
  unfold ftm_put_int64.f
  rw [if_pos hl, Option.bind_some]
  have e : wrap64 (((l ++ [x]).length : Int) - 1) = (l.length : Int) := by rw [List.length_append, List.length_singleton, w64 (by omega) (by omega)]; omega
  rw [e]
  exact put_loop l x hs hl l.length _ _ (by omega) (by omega) (by simp) (by simp) (by simp) (by simp)
def okAll (l : List Int) : Prop := ∀ x ∈ l, -1099511627776 ≤ x ∧ x ≤ 1099511627776
instance (l : List Int) : Decidable (okAll l) := by unfold okAll; infer_instance
/-- What Trim tells. -/
def trimF (l : List Int) (f : Int) : List Int × Int :=
  if f < 0 then ([], 1) else if okAll l then (if (l.length : Int) - f ≤ f then ([], 6) else (((srt l).take (l.length - f).toNat).drop f.toNat, 0)) else ([], 1)
theorem info2 : (Try.prog.info? 2).map (fun i => (i.zero, i.size, i.bytes)) = some (some (.int .i64 0), 1, 8) := by kernel_rfl
end Go.Proofs.Ytpdjobbpaldkcaa.Ftm1
