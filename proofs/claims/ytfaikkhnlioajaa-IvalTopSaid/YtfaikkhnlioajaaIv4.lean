/- The ends of any intervals, in order. -/
import Derived.Test.YtfaikkhnlioajaaProg
import Derived.Below
import Derived.Deep.Draws
import Derived.Deep.AppendLies
import Derived.Maps.AppendAt
import Derived.OwnWalk
import Derived.Laws.BytesArg
import Derived.Laws.MakeOwn
import Derived.Laws.OwnMore
import Derived.Deep.OwnRows
import Derived.Tactics
import Derived.Lib.ConvBytes
import Derived.Laws.Slices
import Derived.WalkKit
import Derived.KernelRfl
import Derived.RowKit3
import Derived.Deep.LoopGhost
import Derived.Deep.QuietTactic
import Derived.BigQuiet
import Derived.WideLaws
import Derived.Deep.DeepCutAuto
import Derived.Deep.CutBlock
import Derived.Deep.RegionHeld3
import Derived.Laws.Rows
import Derived.Lib.AppendStr
import Derived.ArgAppend
import Derived.Laws.IdiomCopy
import Derived.OrdersHeld
import Derived.Laws.BitsLemmas
import Derived.RowKit
import Derived.RegionTactic
import Derived.ChangeAlike
import Derived.Outline
import Derived.LoopTactic
import Derived.WalkSpells
import Derived.WalkLawsBesides
import Derived.Lib.Hide
import Derived.StillTailTactics
import Derived.Deep.RegionWith
import Derived.Deep.RegionLaw
import Derived.Deep.DeepFit
import Derived.Deep.DeepMust
import Derived.Test.YtfaikkhnlioajaaWWords
import Derived.Test.YtfaikkhnlioajaaWLast
import Derived.Test.YtfaikkhnlioajaaWTab
import Derived.Test.YtfaikkhnlioajaaWFour
import Derived.Test.YtfaikkhnlioajaaWQPut
import Derived.Test.YtfaikkhnlioajaaWApart
import Derived.Test.YtfaikkhnlioajaaWArr
import Derived.Test.YtfaikkhnlioajaaWZeros
import Derived.Test.YtfaikkhnlioajaaWFoot
import Derived.Test.YtfaikkhnlioajaaWKept
import Derived.Test.YtfaikkhnlioajaaWShare
import Derived.Test.YtfaikkhnlioajaaWN
import Derived.Test.YtfaikkhnlioajaaWFootNe
import Derived.Test.YtfaikkhnlioajaaWAt
import Derived.Test.YtfaikkhnlioajaaWEqStruct
import Derived.Test.YtfaikkhnlioajaaWRepsOne
import Derived.Test.YtfaikkhnlioajaaWInv
import Derived.Test.YtfaikkhnlioajaaWInvWords
import Derived.Test.YtfaikkhnlioajaaWGuard
import Derived.Test.YtfaikkhnlioajaaWNEv
import Derived.Test.YtfaikkhnlioajaaWMore
import Derived.Test.YtfaikkhnlioajaaIv1
import Derived.Test.YtfaikkhnlioajaaIv3
import Derived.Lib.SmallJoins
namespace Go.Proofs.Ytfaikkhnlioajaa.Iv4
open Go.RowKit Go.Proofs.YtfaikkhnlioajaaW.PrintWords Go.Proofs.YtfaikkhnlioajaaW.PrintLast Go.Proofs.YtfaikkhnlioajaaW.PrintMore 
attribute [local go_sem] max2_int min2_int max_two min_two max_three min_three max_four min_four
set_option linter.unusedVariables false
set_option linter.unusedSimpArgs false
open Go.Shelf Go.RowKit Go.Lib Go.Sort Go.Proofs.Ytfaikkhnlioajaa.QBase Go.Proofs.Ytfaikkhnlioajaa.Iv1 Go.Proofs.Ytfaikkhnlioajaa.Iv2 Go.Proofs.Ytfaikkhnlioajaa.Iv3
/-- w' is w, but for the blocks in S and for new blocks. -/
structure Upd (S : Nat → Prop) (w w' : World) : Prop where
  os : w'.os = w.os
  tape : w'.tape = w.tape
  output : w'.output = w.output
  size : w.heap.size ≤ w'.heap.size
  block : ∀ k, k < w.heap.size → ¬ S k → w'.heap[k]? = w.heap[k]?
theorem Upd.refl (S : Nat → Prop) (w : World) : Upd S w w := ⟨rfl, rfl, rfl, Nat.le_refl _, fun _ _ _ => rfl⟩
theorem Upd.trans {S : Nat → Prop} {a b c : World} (h : Upd S a b) (k : Upd S b c) : Upd S a c :=
  ⟨k.os.trans h.os, k.tape.trans h.tape, k.output.trans h.output, Nat.le_trans h.size k.size, fun i hi hs => (k.block i (Nat.lt_of_lt_of_le hi h.size) hs).trans (h.block i hi hs)⟩
theorem Upd.mono {S T : Nat → Prop} {a b : World} (h : Upd S a b) (hS : ∀ k, k < a.heap.size → S k → T k) : Upd T a b :=
  ⟨h.os, h.tape, h.output, h.size, fun i hi hs => h.block i hi (fun x => hs (hS i hi x))⟩
theorem Upd.alloc {S : Nat → Prop} {a w : World} (h : Upd S a w) (o : Obj) : Upd S a (w.alloc o) :=
  ⟨h.os, h.tape, h.output, Nat.le_trans h.size (by simp), fun i hi hs => (Below.heap_alloc w o i (Nat.lt_of_lt_of_le hi h.size)).trans (h.block i hi hs)⟩
theorem Upd.setCell {S : Nat → Prop} {a w : World} (h : Upd S a w) {p : Addr} (hp : S p.block ∨ a.heap.size ≤ p.block) (u : Value) : Upd S a (w.setCell p u) :=
  ⟨h.os, h.tape, h.output, by simpa [World.setCell] using h.size, fun i hi hs => (Below.heap_setCell w p u i (by rintro rfl; rcases hp with x | x; exact hs x; omega)).trans (h.block i hi hs)⟩
theorem Upd.drew {S : Nat → Prop} {a w : World} (h : Upd S a w) : Upd S a w.drew := ⟨h.os, h.tape, h.output, h.size, h.block⟩
theorem Upd.drewN {S : Nat → Prop} {a w : World} (h : Upd S a w) (n : Nat) : Upd S a (w.drewN n) := ⟨h.os, h.tape, h.output, h.size, h.block⟩
theorem Upd.below {S : Nat → Prop} {a w : World} (h : Upd S a w) {B : Nat} (hB : B ≤ a.heap.size) (hS : ∀ k, S k → B ≤ k) : Below B a w :=
  ⟨h.os, h.tape, h.output, h.size, fun i hi => h.block i (by omega) (fun x => by have := hS i x; omega)⟩
theorem Upd.cellF {S : Nat → Prop} {a w : World} (h : Upd S a w) {p : Addr} {v : Value} (hc : a.cell? p = some v) (hs : ¬ S p.block) : w.cell? p = some v :=
  (World.cell?_of_block (w := a) (h.block p.block (World.block_lt_of_cell? a p hc) hs)).trans hc
theorem Upd.to_below {S : Nat → Prop} {z a w : World} {B : Nat} (h0 : Below B z a) (h : Upd S a w) (hB : B ≤ z.heap.size) (hS : ∀ k, S k → B ≤ k) : Below B z w :=
  h0.trans (h.below (Nat.le_trans hB h0.size) hS)
theorem Upd.of_below {S : Nat → Prop} {a w : World} (h : Below a.heap.size a w) : Upd S a w := ⟨h.os, h.tape, h.output, h.size, fun i hi _ => h.block i hi⟩
theorem Upd.far {S : Nat → Prop} {a w : World} (h : Upd S a w) {g : Nat} {o : Obj} (hg : a.heap[g]? = some o) (hs : ¬ S g) : w.heap[g]? = some o := (h.block g (blk_lt hg) hs).trans hg
theorem block_of_some {w : World} {a : Addr} (h : (w.cell? a).isSome = true) : a.block < w.heap.size := by
  obtain ⟨v, hv⟩ := Option.isSome_iff_exists.1 h
  exact World.block_lt_of_cell? w a hv
theorem cellS1 (w : World) (a : Addr) (o1 : Obj) (h : (w.cell? a).isSome = true) : (w.alloc o1).cell? a = w.cell? a := by
  have hl := block_of_some h
  exact (World.cell?_alloc_lt w _ a (by first | exact hl | (simp; omega) | omega)).trans (rfl)
theorem frozenS1 (w : World) (a : Addr) (o1 : Obj) (h : (w.cell? a).isSome = true) : (w.alloc o1).frozen? a = w.frozen? a := by
  have hl := block_of_some h
  exact (World.frozen?_alloc_old w _ a (by first | exact hl | (simp; omega) | omega)).trans (rfl)
theorem cellS2 (w : World) (a : Addr) (o1 o2 : Obj) (h : (w.cell? a).isSome = true) : ((w.alloc o1).alloc o2).cell? a = w.cell? a := by
  have hl := block_of_some h
  exact (World.cell?_alloc_lt (w.alloc o1) _ a (by first | exact hl | (simp; omega) | omega)).trans (cellS1 w a o1 h)
theorem frozenS2 (w : World) (a : Addr) (o1 o2 : Obj) (h : (w.cell? a).isSome = true) : ((w.alloc o1).alloc o2).frozen? a = w.frozen? a := by
  have hl := block_of_some h
  exact (World.frozen?_alloc_old (w.alloc o1) _ a (by first | exact hl | (simp; omega) | omega)).trans (frozenS1 w a o1 h)
theorem cellS3 (w : World) (a : Addr) (o1 o2 o3 : Obj) (h : (w.cell? a).isSome = true) : (((w.alloc o1).alloc o2).alloc o3).cell? a = w.cell? a := by
  have hl := block_of_some h
  exact (World.cell?_alloc_lt ((w.alloc o1).alloc o2) _ a (by first | exact hl | (simp; omega) | omega)).trans (cellS2 w a o1 o2 h)
theorem frozenS3 (w : World) (a : Addr) (o1 o2 o3 : Obj) (h : (w.cell? a).isSome = true) : (((w.alloc o1).alloc o2).alloc o3).frozen? a = w.frozen? a := by
  have hl := block_of_some h
  exact (World.frozen?_alloc_old ((w.alloc o1).alloc o2) _ a (by first | exact hl | (simp; omega) | omega)).trans (frozenS2 w a o1 o2 h)
theorem cellS4 (w : World) (a : Addr) (o1 o2 o3 o4 : Obj) (h : (w.cell? a).isSome = true) : ((((w.alloc o1).alloc o2).alloc o3).alloc o4).cell? a = w.cell? a := by
  have hl := block_of_some h
  exact (World.cell?_alloc_lt (((w.alloc o1).alloc o2).alloc o3) _ a (by first | exact hl | (simp; omega) | omega)).trans (cellS3 w a o1 o2 o3 h)
theorem frozenS4 (w : World) (a : Addr) (o1 o2 o3 o4 : Obj) (h : (w.cell? a).isSome = true) : ((((w.alloc o1).alloc o2).alloc o3).alloc o4).frozen? a = w.frozen? a := by
  have hl := block_of_some h
  exact (World.frozen?_alloc_old (((w.alloc o1).alloc o2).alloc o3) _ a (by first | exact hl | (simp; omega) | omega)).trans (frozenS3 w a o1 o2 o3 h)
theorem cellS5 (w : World) (a : Addr) (o1 o2 o3 o4 o5 : Obj) (h : (w.cell? a).isSome = true) : (((((w.alloc o1).alloc o2).alloc o3).alloc o4).alloc o5).cell? a = w.cell? a := by
  have hl := block_of_some h
  exact (World.cell?_alloc_lt ((((w.alloc o1).alloc o2).alloc o3).alloc o4) _ a (by first | exact hl | (simp; omega) | omega)).trans (cellS4 w a o1 o2 o3 o4 h)
theorem frozenS5 (w : World) (a : Addr) (o1 o2 o3 o4 o5 : Obj) (h : (w.cell? a).isSome = true) : (((((w.alloc o1).alloc o2).alloc o3).alloc o4).alloc o5).frozen? a = w.frozen? a := by
  have hl := block_of_some h
  exact (World.frozen?_alloc_old ((((w.alloc o1).alloc o2).alloc o3).alloc o4) _ a (by first | exact hl | (simp; omega) | omega)).trans (frozenS4 w a o1 o2 o3 o4 h)
theorem cellS6 (w : World) (a : Addr) (o1 o2 o3 o4 o5 o6 : Obj) (h : (w.cell? a).isSome = true) : ((((((w.alloc o1).alloc o2).alloc o3).alloc o4).alloc o5).alloc o6).cell? a = w.cell? a := by
  have hl := block_of_some h
  exact (World.cell?_alloc_lt (((((w.alloc o1).alloc o2).alloc o3).alloc o4).alloc o5) _ a (by first | exact hl | (simp; omega) | omega)).trans (cellS5 w a o1 o2 o3 o4 o5 h)
theorem frozenS6 (w : World) (a : Addr) (o1 o2 o3 o4 o5 o6 : Obj) (h : (w.cell? a).isSome = true) : ((((((w.alloc o1).alloc o2).alloc o3).alloc o4).alloc o5).alloc o6).frozen? a = w.frozen? a := by
  have hl := block_of_some h
  exact (World.frozen?_alloc_old (((((w.alloc o1).alloc o2).alloc o3).alloc o4).alloc o5) _ a (by first | exact hl | (simp; omega) | omega)).trans (frozenS5 w a o1 o2 o3 o4 o5 h)
theorem cellS7 (w : World) (a : Addr) (o1 o2 o3 o4 o5 o6 o7 : Obj) (h : (w.cell? a).isSome = true) : (((((((w.alloc o1).alloc o2).alloc o3).alloc o4).alloc o5).alloc o6).alloc o7).cell? a = w.cell? a := by
  have hl := block_of_some h
  exact (World.cell?_alloc_lt ((((((w.alloc o1).alloc o2).alloc o3).alloc o4).alloc o5).alloc o6) _ a (by first | exact hl | (simp; omega) | omega)).trans (cellS6 w a o1 o2 o3 o4 o5 o6 h)
theorem frozenS7 (w : World) (a : Addr) (o1 o2 o3 o4 o5 o6 o7 : Obj) (h : (w.cell? a).isSome = true) : (((((((w.alloc o1).alloc o2).alloc o3).alloc o4).alloc o5).alloc o6).alloc o7).frozen? a = w.frozen? a := by
  have hl := block_of_some h
  exact (World.frozen?_alloc_old ((((((w.alloc o1).alloc o2).alloc o3).alloc o4).alloc o5).alloc o6) _ a (by first | exact hl | (simp; omega) | omega)).trans (frozenS6 w a o1 o2 o3 o4 o5 o6 h)
theorem cellS8 (w : World) (a : Addr) (o1 o2 o3 o4 o5 o6 o7 o8 : Obj) (h : (w.cell? a).isSome = true) : ((((((((w.alloc o1).alloc o2).alloc o3).alloc o4).alloc o5).alloc o6).alloc o7).alloc o8).cell? a = w.cell? a := by
  have hl := block_of_some h
  exact (World.cell?_alloc_lt (((((((w.alloc o1).alloc o2).alloc o3).alloc o4).alloc o5).alloc o6).alloc o7) _ a (by first | exact hl | (simp; omega) | omega)).trans (cellS7 w a o1 o2 o3 o4 o5 o6 o7 h)
theorem frozenS8 (w : World) (a : Addr) (o1 o2 o3 o4 o5 o6 o7 o8 : Obj) (h : (w.cell? a).isSome = true) : ((((((((w.alloc o1).alloc o2).alloc o3).alloc o4).alloc o5).alloc o6).alloc o7).alloc o8).frozen? a = w.frozen? a := by
  have hl := block_of_some h
  exact (World.frozen?_alloc_old (((((((w.alloc o1).alloc o2).alloc o3).alloc o4).alloc o5).alloc o6).alloc o7) _ a (by first | exact hl | (simp; omega) | omega)).trans (frozenS7 w a o1 o2 o3 o4 o5 o6 o7 h)
theorem ret_int {k : IntKind} {a b : Int} (h : a = b) : Ending.returned (.int k a) = .returned (.int k b) := by rw [h]
attribute [local go_sem] cellS1 frozenS1 cellS2 frozenS2 cellS3 frozenS3 cellS4 frozenS4 cellS5 frozenS5 cellS6 frozenS6 cellS7 frozenS7 cellS8 frozenS8
theorem quiet_add {P : Program} {f : FuncId} {args : Array Value} {w : World} {a n : Nat} {v : Value}
    (h : Calls P f args (w.drewN (a + n)) fun e w' => e = .returned v ∧ ∃ m, w' = (w.drewN (a + n)).drewN m) :
    Calls P f args (w.drewN (a + n)) fun e w'' => e = .returned v ∧ ∃ m, w'' = w.drewN (a + m) :=
  h.mono fun _ _ ⟨he, m, hm⟩ => ⟨he, n + m, by rw [hm, World.drewN_drewN, Nat.add_assoc]⟩
theorem quiet_add_same {P : Program} {f : FuncId} {args : Array Value} {w : World} {a n : Nat} {v : Value}
    (h : Calls P f args (w.drewN (a + n)) fun e w' => e = .returned v ∧ w' = w.drewN (a + n)) :
    Calls P f args (w.drewN (a + n)) fun e w'' => e = .returned v ∧ ∃ m, w'' = w.drewN (a + m) :=
  h.mono fun _ _ ⟨he, hm⟩ => ⟨he, n, hm⟩
theorem quiet_add_left {P : Program} {f : FuncId} {args : Array Value} {w : World} {a n : Nat} {v : Value}
    (h : Calls P f args (w.drewN (a + n)) fun e w' => e = .returned v ∧ w.drewN (a + n) = w') :
    Calls P f args (w.drewN (a + n)) fun e w'' => e = .returned v ∧ ∃ m, w'' = w.drewN (a + m) :=
  h.mono fun _ _ ⟨he, hm⟩ => ⟨he, n, hm.symm⟩
theorem quiet_left {P : Program} {f : FuncId} {args : Array Value} {w : World} {n : Nat} {v : Value}
    (h : Calls P f args (w.drewN n) fun e w' => e = .returned v ∧ w.drewN n = w') : Calls P f args (w.drewN n) fun e w'' => e = .returned v ∧ ∃ m, w'' = w.drewN m :=
  h.mono fun _ _ ⟨he, hm⟩ => ⟨he, n, hm.symm⟩

theorem wp_gen {P : Program} {c : Code} {Q : Exit → Act → World → Prop} {a : Act} {w : World} (F : World → Prop) (hF : F w) (h : ∀ W, F W → Code.wp P c Q a W) : Code.wp P c Q a w := h w hF
theorem add0 (g j : Nat) : (⟨g, 0, none⟩ : Addr).add j = ⟨g, j, none⟩ := by simp [Addr.add]; exact fun h => h.symm
theorem info122 : (Try.prog.info? 122).map (fun i => (i.zero, i.size, i.bytes)) = some (some (.agg #[.int .i64 0, .int .i64 0]), 2, 16) := by kernel_rfl
theorem info_parts {t : TypeId} {z : Value} {s b : Nat} (h : (Try.prog.info? t).map (fun i => (i.zero, i.size, i.bytes)) = some (some z, s, b)) : ∃ i, Try.prog.info? t = some i ∧ i.zero = some z ∧ i.size = s ∧ i.bytes = b := by
  cases hi : Try.prog.info? t with
  | none => rw [hi] at h; cases h
  | some i => rw [hi] at h; simp at h; exact ⟨i, rfl, h.1, h.2.1, h.2.2⟩
def flat (E : List (Int × Int)) : List Value := E.flatMap encE
theorem flat_len (E : List (Int × Int)) : (flat E).length = E.length * 2 := by
  induction E with
  | nil => rfl
  | cons e E ih => rw [show flat (e :: E) = encE e ++ flat E from rfl, List.length_append, ih, List.length_cons]; show 2 + _ = _; omega
theorem flat_append (E F : List (Int × Int)) : flat (E ++ F) = flat E ++ flat F := by unfold flat; simp
theorem ends_append (E F : List (Int × Int)) : ends (E ++ F) = ends E ++ ends F := by unfold ends; simp
theorem ends_len (L : List (Int × Int)) : (ends L).length ≤ 2 * L.length := by
  induction L with
  | nil => exact Nat.le_refl 0
  | cons x L ih =>
    have e1 : ends (x :: L) = ends1 x ++ ends L := rfl
    rw [e1, List.length_append, List.length_cons]
    unfold ends1
    split <;> simp <;> omega
def sorted (L : List (Int × Int)) : List (Int × Int) := (ends L).mergeSort fun x y => !(ltOf cfE) y x
def EdgesAt (w : World) (p : Option Addr) (E : List (Int × Int)) : Prop := ∀ j, j < E.length → ∃ ad, p = some ad ∧ w.cell? (ad.add (j * 2)) = some (.int .i64 (E.getD j (0, 0)).1) ∧ w.cell? ⟨(ad.add (j * 2)).block, (ad.add (j * 2)).off + 1, none⟩ = some (.int .i64 (E.getD j (0, 0)).2)
theorem flat_get : ∀ (E : List (Int × Int)) (t : Nat), t < E.length * 2 → (flat E)[t]? = some ((encE E.toArray[t / 2]!)[t % 2]!)
  | [], t, h => absurd h (by simp)
  | e :: E, 0, h => rfl
  | e :: E, 1, h => rfl
  | e :: E, t + 2, h => by
    have hlt : t < E.length * 2 := by rw [List.length_cons] at h; omega
    have := flat_get E t hlt
    rw [show flat (e :: E) = encE e ++ flat E from rfl, List.getElem?_append_right (by show 2 ≤ t + 2; omega), show t + 2 - (encE e).length = t from rfl, this, show (t + 2) / 2 = t / 2 + 1 by omega, show (t + 2) % 2 = t % 2 by omega]
    simp
theorem holds_of_own {w : World} {b g co : Nat} {E : List (Int × Int)} (h : w.ownsRow b 122 2 (.slice (some ⟨g, 0, none⟩) E.length co) E.length (flat E)) : HoldsK encE 2 w g 0 E.toArray := by
  intro j hj
  rw [size_flatK, List.size_toArray] at hj
  rw [get_flatK _ _ _ _ (by simpa using hj)]
  have h1 := h.cells (g := g) rfl j _ (flat_get E j hj)
  have h2 := h.frozenAt j
  rw [add0] at h1
  rw [Nat.zero_add]
  exact ⟨h1, h2⟩
theorem edges_of_holds {w : World} {g : Nat} {S : List (Int × Int)} (h : HoldsK encE 2 w g 0 S.toArray) : EdgesAt w (some ⟨g, 0, none⟩) S := by
  intro j hj
  have h0 := (h.cell (i := j) (c := 0) (by simpa using hj) (by omega)).1
  have h1 := (h.cell (i := j) (c := 1) (by simpa using hj) (by omega)).1
  have e : S.toArray[j]! = S.getD j (0, 0) := by simp [List.getD_eq_getElem?_getD, List.getElem?_eq_getElem hj, hj]
  rw [e] at h0 h1
  refine ⟨_, rfl, ?_, ?_⟩
  · rw [add0]; rw [Nat.zero_add, Nat.add_zero] at h0; exact h0
  · rw [add0]; rw [Nat.zero_add] at h1; exact h1
theorem heap_mapBlock (w : World) (b k : Nat) (f : Array Value → Array Value) (h : k ≠ b) : (mapBlock w b f).heap[k]? = w.heap[k]? := by
  unfold mapBlock
  simp [Array.getElem?_modify, Ne.symm h]
theorem below_sort {w wr : World} {g : Nat} (h : Below w.heap.size w wr) (hg : w.heap.size ≤ g) (n : Nat) (d : Array (Int × Int)) (os : Array Obj) : Below w.heap.size w (sortWorldK encE 2 wr g 0 n d os) := by
  have hgr : wr.grownBy (sortWorldK encE 2 wr g 0 n d os) (some g) := ⟨rfl, rfl, rfl, size_sortWorldK_c encE 2 wr g 0 n d os, fun k hk hne => by
    unfold sortWorldK
    rw [heap_grow_old _ _ (by unfold putRowK; rw [size_putRow]; exact hk)]
    unfold putRowK putRow
    rw [heap_mapBlock _ _ _ _ (fun e => hne (by rw [e]))]
    rfl⟩
  exact h.grown hgr h.size (fun j hj => by cases hj; exact hg)
theorem grown_below {w w' : World} (h : Below w.heap.size w w') (row : Option Nat) : w.grownBy w' row := ⟨h.os, h.tape, h.output, h.size, fun k hk _ => h.block k hk⟩
theorem cells_four (w : World) (a b c d : Value) (t : TypeId) : ∀ j u, [a, b, c, d][j]? = some u → (w.alloc (.cells #[a, b, c, d] t)).cell? ((⟨w.heap.size, 0, none⟩ : Addr).add j) = some u := by
  intro j u hj
  rw [add0, blk_cell (blk_new w _) j]
  match j, hj with
  | 0, hj => exact hj
  | 1, hj => exact hj
  | 2, hj => exact hj
  | 3, hj => exact hj
theorem right_ok (a b : Int) (W : World) : Calls Try.prog 45 #[.agg #[.int .i64 a, .int .i64 b]] W fun e w' => e = .returned (.bool (rt (a, b))) ∧ Below W.heap.size W w' := ival_Right.calls a b _ W (iright_eq a b)
set_option maxRecDepth 100000 in
set_option maxHeartbeats 8000000 in
theorem edges_ok (w : World) (A : Option Addr) (c : Nat) (l : List S61) (hr : Kd.C k61 w A l.length l) (hn : l.length ≤ 200) :
    Calls Try.prog 65 #[.slice A l.length c] w fun en w' => Below w.heap.size w w' ∧ ∃ p cap, en = .returned (.slice p (sorted (l.map pr)).length cap) ∧ EdgesAt w' p (sorted (l.map pr)) ∧ (∀ ad, p = some ad → w.heap.size ≤ ad.block) := by
  unfold sorted
  obtain ⟨E0, hE0⟩ : ∃ E0, ends (l.map pr) = E0 := ⟨_, rfl⟩
  rw [hE0]
  obtain ⟨S, hS⟩ : ∃ S, (E0.mergeSort fun x y => !(ltOf cfE) y x) = S := ⟨_, rfl⟩
  rw [hS]
  have HE0 := Aside0.mk hE0
  have HS0 := Aside0.mk hS
  clear hE0 hS
  obtain ⟨i122, hi, hz0, hz1, hz2⟩ := info_parts info122
  have HR := Aside0.mk hr
  clear hr
  go_enter Try.func65, Try.ntmps65
  go_wp2
  go_loopw [3, 8] (fun vo vi wr => ∃ (k m : Nat) (Ao : Option Addr) (co : Nat), vi = .int .i64 k ∧ vo = .slice Ao m co ∧ k ≤ l.length ∧ m ≤ 2 * k ∧ Aside0 (wr.ownsRow w.heap.size 122 2 (.slice Ao m co) m (flat (ends ((l.take k).map pr)))) ∧ Aside0 (Below w.heap.size w wr)) (fun _ vi _ => l.length - (intOf vi).toNat)
  case atStart => exact ⟨0, 0, none, 0, rfl, rfl, by omega, by omega, ⟨World.ownsRow_nil _ _ _ _⟩, ⟨Below.refl _ _⟩⟩
  case round =>
    obtain ⟨k, m, Ao, co, rfl, rfl, hk, hm, O3, B3⟩ := hrel
    by_cases c9 : k < l.length
    · have c9b : decide ((k : Int) < (l.length : Int)) = true := decide_eq_true (by omega)
      obtain ⟨ad, e0, hx0, hx1⟩ := at_T61 HR.out (k : Int) (by omega) (by omega)
      subst e0
      rw [rd_at l k c9, Int.toNat_natCast] at hx0 hx1
      have hx : (l.map pr)[k]'(by simpa using c9) = pr l[k] := by simp
      obtain ⟨x0, ex0⟩ : ∃ x0, l[k].f0 = x0 := ⟨_, rfl⟩
      obtain ⟨x1, ex1⟩ : ∃ x1, l[k].f1 = x1 := ⟨_, rfl⟩
      rw [ex0] at hx0
      rw [ex1] at hx1
      replace hx0 := (B3.out.cell (World.block_lt_of_cell? w _ hx0)).trans hx0
      replace hx1 := (B3.out.cell (World.block_lt_of_cell? w _ hx1)).trans hx1
      have kz : (0 : Int) ≤ (k : Int) := by omega
      have kz2 : (k : Int) < (l.length : Int) := by omega
      go_upto_region 5 with (fail)
      have hR : ∀ W, Calls Try.prog 45 #[.agg #[.int .i64 x0, .int .i64 x1]] W fun e w' => e = .returned (.bool (rt (x0, x1))) ∧ Below W.heap.size W w' := right_ok x0 x1
      have htk : (l.take (k + 1)).map pr = (l.take k).map pr ++ [(x0, x1)] := by
        rw [List.take_succ_eq_append_getElem c9, List.map_append, ← ex0, ← ex1]; rfl
      cases hrx : rt (x0, x1) with
      | true =>
        rw [hrx] at hR
        have HE : Aside0 (flat (ends ((l.take (k + 1)).map pr)) = flat (ends ((l.take k).map pr)) ++ [.int .i64 x0, .int .i64 1, .int .i64 x1, .int .i64 (-1)]) := ⟨by
          rw [htk, ends_append, flat_append]
          have : ends [(x0, x1)] = [(x0, 1), (x1, -1)] := by show ends1 (x0, x1) ++ [] = _; unfold ends1; rw [if_pos hrx]; rfl
          rw [this]; rfl⟩
        clear hrx ex0 ex1 hx htk
        go_upto_region 6 with (first | (go_at_call 45; go_loud (refine (hR _).mono ?_; rintro en w3 ⟨rfl, hb⟩; have k3 : w3.heap[wr.heap.size]? = some (.cells #[.int .i64 x0, .int .i64 x1] 61 (0, 0)) := blk_below (blk_new wr _) hb; have d0 : w3.cell? ⟨wr.heap.size, 0, none⟩ = some (.int .i64 x0) := (blk_cell k3 0).trans rfl; have d1 : w3.cell? ⟨wr.heap.size, 1, none⟩ = some (.int .i64 x1) := (blk_cell k3 1).trans rfl; have O4 : Aside0 (w3.ownsRow w.heap.size 122 2 (.slice Ao m co) m (flat (ends ((l.take k).map pr)))) := ⟨(own_alloc O3.out _).kept (grown_below hb none) (match h : (Value.slice Ao m co).ownBlock with | none => Or.inl rfl | some j => Or.inr (by simp))⟩; have B4 : Aside0 (Below w.heap.size w w3) := ⟨below_step (below_alloc B3.out _) hb⟩; clear hb k3)))
        have hown := O4.out
        go_wp2_with (first | (at_builtin; go_loud (refine wpList_append_own _ rfl _ _ 119 rfl w.heap.size 122 i122 (.agg #[.int .i64 0, .int .i64 0]) 2 16 Try.underlying119 hi hz0 hz1 hz2 rfl (by decide) _ _ _ rfl (hown.alloc _) ⟨w3.heap.size, 0, none⟩ 2 2 [.int .i64 x0, .int .i64 1, .int .i64 x1, .int .i64 (-1)] rfl rfl (cells_four _ _ _ _ _ _) (by simp [Value.oneCell']) (by unfold maxLen; omega) (by omega) (by have := B4.out.size; simp; omega) ?_; intro v' w9 hown' hgrow _; obtain ⟨Ap, cq, rfl⟩ := own_slice hown'; have hall := (World.grownBy_alloc w3 (.cells #[.int .i64 x0, .int .i64 1, .int .i64 x1, .int .i64 (-1)] 122) (Value.slice Ao m co).ownBlock).trans hgrow; have B9 : Aside0 (Below w.heap.size w w9) := ⟨B4.out.grown hall B4.out.size (fun j hj => (O4.out.lt j hj).1)⟩; have O9 : Aside0 (w9.ownsRow w.heap.size 122 2 ((.slice Ap (m + 2) cq)) (m + 2) (flat (ends ((l.take (k + 1)).map pr)))) := ⟨by rw [HE.out]; exact hown'⟩; clear hown hown' hgrow hall)))
        go_roundw
        case rel => exact ⟨k + 1, m + 2, Ap, cq, by go_num, rfl, by omega, by omega, O9, B9⟩
        case measure => simp [intOf]; omega
      | false =>
        rw [hrx] at hR
        have HE : Aside0 (ends ((l.take (k + 1)).map pr) = ends ((l.take k).map pr)) := ⟨by
          rw [htk, ends_append]
          have : ends [(x0, x1)] = [] := by show ends1 (x0, x1) ++ [] = _; unfold ends1; rw [if_neg (by rw [hrx]; decide)]; rfl
          rw [this, List.append_nil]⟩
        clear hrx ex0 ex1 hx htk
        go_wp2_with (first | (go_at_call 45; go_loud (refine (hR _).mono ?_; rintro en w3 ⟨rfl, hb⟩; have O4 : Aside0 (w3.ownsRow w.heap.size 122 2 (.slice Ao m co) m (flat (ends ((l.take k).map pr)))) := ⟨(own_alloc O3.out _).kept (grown_below hb none) (match h : (Value.slice Ao m co).ownBlock with | none => Or.inl rfl | some j => Or.inr (by simp))⟩; have B4 : Aside0 (Below w.heap.size w w3) := ⟨below_step (below_alloc B3.out _) hb⟩; clear hb)))
        go_roundw
        case rel => exact ⟨k + 1, m, Ao, co, by go_num, rfl, by omega, by omega, ⟨by rw [HE.out]; exact O4.out⟩, B4⟩
        case measure => simp [intOf]; omega
    · have c9b : decide ((k : Int) < (l.length : Int)) = false := decide_eq_false (by omega)
      have hkl : k = l.length := by omega
      have hown := O3.out
      rw [hkl, List.take_length] at hown
      rw [HE0.out] at hown
      have hmE : m = E0.length := by have := hown.1; rw [flat_len] at this; omega
      subst hmE
      have hlt4 := ends_len (l.map pr)
      rw [List.length_map, HE0.out] at hlt4
      clear O3 hkl
      rcases Nat.eq_zero_or_pos E0.length with h0 | hEp
      · obtain rfl := List.length_eq_zero_iff.mp h0
        clear h0
        have hcon := fun W => AnyF.slices_SortFunc_none Try.sortEd Ao co (.func (.func 79) #[] #[]) W
        change ∀ W, Calls Try.prog 78 _ _ _ at hcon
        have HOWN := Aside0.mk hown
        clear hown
        go_wp2_with (first | (go_at_call 78; go_loud (refine (hcon _).mono ?_; rintro en w3 ⟨rfl, rfl⟩)))
        go_ret
        have hSn : S = [] := by rw [← HS0.out]; exact List.mergeSort_nil
        subst hSn
        exact ⟨B3.out, Ao, co, rfl, fun j hj => absurd hj (Nat.not_lt_zero _), fun ad e => (HOWN.out.lt ad.block (by rw [e]; rfl)).1⟩
      · skip
        obtain ⟨g, cap, e⟩ := Go.Joins.ownsRow_form hown hEp
        obtain ⟨rfl, rfl⟩ : Ao = some ⟨g, 0, none⟩ ∧ co = cap := by cases e; exact ⟨rfl, rfl⟩
        have hH := holds_of_own hown
        have hlt := hown.lt g rfl
        have eg : ∀ args w, (callFunc 79 args).run Try.prog w = .ok (.enter 79 args) w := enters_of Try.func79 (by kernel_rfl) rfl
        have hcon := AnyQ.slices_SortFunc_total Try.sortEd 2 Try.isAgg122 Try.sizeOf122 encE (fun _ => rfl) (fun x v hv => by simp [encE] at hv; rcases hv with rfl | rfl <;> rfl) cfE swoE 79 #[] g 0 co E0.toArray wr eg (fun _ _ _ _ x y => closure_any x y _) hH hlt.2 (by simp; omega) totE
        change Calls Try.prog 78 _ _ _ at hcon
        rw [List.size_toArray] at hcon
        have HOWN := Aside0.mk hown
        have HH := Aside0.mk hH
        clear hown hH e
        have hS := HS0.out
        have hSl : S.length = E0.length := by rw [← hS]; simp
        have HSL := Aside0.mk hSl
        clear hSl
        have hcon2 : Calls Try.prog 78 #[.slice (some ⟨g, 0, none⟩) E0.length co, .func (.func 79) #[] #[]] wr fun en w' => en = .returned (.tuple #[]) ∧ Below w.heap.size w w' ∧ EdgesAt w' (some ⟨g, 0, none⟩) S := by
          refine hcon.mono ?_
          rintro en w' ⟨h1, n, os, rfl⟩
          have hS2 : (E0.toArray.toList.mergeSort fun x y => !(ltOf cfE) y x).toArray = S.toArray := by rw [hS]
          rw [hS2]
          refine ⟨h1, below_sort B3.out hlt.1 n S.toArray os, ?_⟩
          refine edges_of_holds (holdsK_sortWorldK_c encE 2 wr g 0 E0.toArray S.toArray n os HH.out hlt.2 ?_)
          have := HSL.out
          simpa using this
        clear hcon hS eg hlt hEp hlt4 hm
        go_wp2_with (first | (go_at_call 78; go_loud (refine hcon2.mono ?_; rintro en w3 ⟨rfl, a1, a2⟩; have R1 := Aside0.mk a1; have R2 := Aside0.mk a2; clear a1 a2)))
        go_ret
        refine ⟨R1.out, some ⟨g, 0, none⟩, co, ?_, R2.out, fun ad e => by cases e; exact (HOWN.out.lt g rfl).1⟩
        show Ending.returned (.slice (some ⟨g, 0, none⟩) E0.length co) = _
        rw [HSL.out]
end Go.Proofs.Ytfaikkhnlioajaa.Iv4
