/- What the methods of a machine come to. -/
import Derived.Test.YtiiaooaigeenoaaProg
import Derived.Below
import Derived.Deep.Draws
import Derived.Deep.AppendLies
import Derived.Maps.AppendAt
import Derived.OwnWalk
import Derived.Laws.BytesArg
import Derived.Laws.MakeOwn
import Derived.Laws.OwnMore
import Derived.Deep.OwnRows
import Derived.Tactics
import Derived.Lib.ConvBytes
import Derived.Laws.Slices
import Derived.WalkKit
import Derived.KernelRfl
import Derived.RowKit3
import Derived.Deep.LoopGhost
import Derived.Deep.QuietTactic
import Derived.BigQuiet
import Derived.WideLaws
import Derived.Deep.DeepCutAuto
import Derived.Deep.CutBlock
import Derived.Deep.RegionHeld3
import Derived.Laws.Rows
import Derived.Lib.AppendStr
import Derived.ArgAppend
import Derived.Laws.IdiomCopy
import Derived.OrdersHeld
import Derived.Laws.BitsLemmas
import Derived.RowKit
import Derived.RegionTactic
import Derived.ChangeAlike
import Derived.Outline
import Derived.LoopTactic
import Derived.WalkSpells
import Derived.WalkLawsBesides
import Derived.Lib.Hide
import Derived.StillTailTactics
import Derived.Deep.RegionWith
import Derived.Deep.RegionLaw
import Derived.Deep.DeepFit
import Derived.Deep.DeepMust
import Derived.Test.YtiiaooaigeenoaaWWords
import Derived.Test.YtiiaooaigeenoaaWLast
import Derived.Test.YtiiaooaigeenoaaWTab
import Derived.Test.YtiiaooaigeenoaaWFour
import Derived.Test.YtiiaooaigeenoaaWQPut
import Derived.Test.YtiiaooaigeenoaaWApart
import Derived.Test.YtiiaooaigeenoaaWArr
import Derived.Test.YtiiaooaigeenoaaWZeros
import Derived.Test.YtiiaooaigeenoaaWFoot
import Derived.Test.YtiiaooaigeenoaaWKept
import Derived.Test.YtiiaooaigeenoaaWShare
import Derived.Test.YtiiaooaigeenoaaWN
import Derived.Test.YtiiaooaigeenoaaWFootNe
import Derived.Test.YtiiaooaigeenoaaWAt
import Derived.Test.YtiiaooaigeenoaaWEqStruct
import Derived.Test.YtiiaooaigeenoaaWRepsOne
import Derived.Test.YtiiaooaigeenoaaWInv
import Derived.Test.YtiiaooaigeenoaaWInvWords
import Derived.Test.YtiiaooaigeenoaaWGuard
import Derived.Test.YtiiaooaigeenoaaWNEv
import Derived.Test.YtiiaooaigeenoaaWMore
import Derived.Test.YtiiaooaigeenoaaSch
import Derived.Test.YtiiaooaigeenoaaQBasex7
import Derived.Test.YtiiaooaigeenoaaQBasex6
import Derived.Deep.RegionHeld3
namespace Go.Proofs.Ytiiaooaigeenoaa.Mode1
open Go.RowKit Go.Proofs.YtiiaooaigeenoaaW.PrintWords Go.Proofs.YtiiaooaigeenoaaW.PrintLast Go.Proofs.YtiiaooaigeenoaaW.PrintMore 
attribute [local go_sem] max2_int min2_int max_two min_two max_three min_three max_four min_four
set_option linter.unusedVariables false
set_option linter.unusedSimpArgs false
/-- w' is w, but for the blocks in S and for new blocks. -/
structure Upd (S : Nat → Prop) (w w' : World) : Prop where
  os : w'.os = w.os
  tape : w'.tape = w.tape
  output : w'.output = w.output
  size : w.heap.size ≤ w'.heap.size
  block : ∀ k, k < w.heap.size → ¬ S k → w'.heap[k]? = w.heap[k]?
theorem Upd.refl (S : Nat → Prop) (w : World) : Upd S w w := ⟨rfl, rfl, rfl, Nat.le_refl _, fun _ _ _ => rfl⟩
theorem Upd.trans {S : Nat → Prop} {a b c : World} (h : Upd S a b) (k : Upd S b c) : Upd S a c :=
  ⟨k.os.trans h.os, k.tape.trans h.tape, k.output.trans h.output, Nat.le_trans h.size k.size, fun i hi hs => (k.block i (Nat.lt_of_lt_of_le hi h.size) hs).trans (h.block i hi hs)⟩
theorem Upd.mono {S T : Nat → Prop} {a b : World} (h : Upd S a b) (hS : ∀ k, k < a.heap.size → S k → T k) : Upd T a b :=
  ⟨h.os, h.tape, h.output, h.size, fun i hi hs => h.block i hi (fun x => hs (hS i hi x))⟩
theorem Upd.alloc {S : Nat → Prop} {a w : World} (h : Upd S a w) (o : Obj) : Upd S a (w.alloc o) :=
  ⟨h.os, h.tape, h.output, Nat.le_trans h.size (by simp), fun i hi hs => (Below.heap_alloc w o i (Nat.lt_of_lt_of_le hi h.size)).trans (h.block i hi hs)⟩
theorem Upd.setCell {S : Nat → Prop} {a w : World} (h : Upd S a w) {p : Addr} (hp : S p.block ∨ a.heap.size ≤ p.block) (u : Value) : Upd S a (w.setCell p u) :=
  ⟨h.os, h.tape, h.output, by simpa [World.setCell] using h.size, fun i hi hs => (Below.heap_setCell w p u i (by rintro rfl; rcases hp with x | x; exact hs x; omega)).trans (h.block i hi hs)⟩
theorem Upd.drew {S : Nat → Prop} {a w : World} (h : Upd S a w) : Upd S a w.drew := ⟨h.os, h.tape, h.output, h.size, h.block⟩
theorem Upd.drewN {S : Nat → Prop} {a w : World} (h : Upd S a w) (n : Nat) : Upd S a (w.drewN n) := ⟨h.os, h.tape, h.output, h.size, h.block⟩
theorem Upd.below {S : Nat → Prop} {a w : World} (h : Upd S a w) {B : Nat} (hB : B ≤ a.heap.size) (hS : ∀ k, S k → B ≤ k) : Below B a w :=
  ⟨h.os, h.tape, h.output, h.size, fun i hi => h.block i (by omega) (fun x => by have := hS i x; omega)⟩
theorem Upd.cellF {S : Nat → Prop} {a w : World} (h : Upd S a w) {p : Addr} {v : Value} (hc : a.cell? p = some v) (hs : ¬ S p.block) : w.cell? p = some v :=
  (World.cell?_of_block (w := a) (h.block p.block (World.block_lt_of_cell? a p hc) hs)).trans hc
theorem Upd.to_below {S : Nat → Prop} {z a w : World} {B : Nat} (h0 : Below B z a) (h : Upd S a w) (hB : B ≤ z.heap.size) (hS : ∀ k, S k → B ≤ k) : Below B z w :=
  h0.trans (h.below (Nat.le_trans hB h0.size) hS)
theorem Upd.of_below {S : Nat → Prop} {a w : World} (h : Below a.heap.size a w) : Upd S a w := ⟨h.os, h.tape, h.output, h.size, fun i hi _ => h.block i hi⟩
theorem Upd.far {S : Nat → Prop} {a w : World} (h : Upd S a w) {g : Nat} {o : Obj} (hg : a.heap[g]? = some o) (hs : ¬ S g) : w.heap[g]? = some o := (h.block g (blk_lt hg) hs).trans hg
theorem block_of_some {w : World} {a : Addr} (h : (w.cell? a).isSome = true) : a.block < w.heap.size := by
  obtain ⟨v, hv⟩ := Option.isSome_iff_exists.1 h
  exact World.block_lt_of_cell? w a hv
theorem cellS1 (w : World) (a : Addr) (o1 : Obj) (h : (w.cell? a).isSome = true) : (w.alloc o1).cell? a = w.cell? a := by
  have hl := block_of_some h
  exact (World.cell?_alloc_lt w _ a (by first | exact hl | (simp; omega) | omega)).trans (rfl)
theorem frozenS1 (w : World) (a : Addr) (o1 : Obj) (h : (w.cell? a).isSome = true) : (w.alloc o1).frozen? a = w.frozen? a := by
  have hl := block_of_some h
  exact (World.frozen?_alloc_old w _ a (by first | exact hl | (simp; omega) | omega)).trans (rfl)
theorem cellS2 (w : World) (a : Addr) (o1 o2 : Obj) (h : (w.cell? a).isSome = true) : ((w.alloc o1).alloc o2).cell? a = w.cell? a := by
  have hl := block_of_some h
  exact (World.cell?_alloc_lt (w.alloc o1) _ a (by first | exact hl | (simp; omega) | omega)).trans (cellS1 w a o1 h)
theorem frozenS2 (w : World) (a : Addr) (o1 o2 : Obj) (h : (w.cell? a).isSome = true) : ((w.alloc o1).alloc o2).frozen? a = w.frozen? a := by
  have hl := block_of_some h
  exact (World.frozen?_alloc_old (w.alloc o1) _ a (by first | exact hl | (simp; omega) | omega)).trans (frozenS1 w a o1 h)
theorem cellS3 (w : World) (a : Addr) (o1 o2 o3 : Obj) (h : (w.cell? a).isSome = true) : (((w.alloc o1).alloc o2).alloc o3).cell? a = w.cell? a := by
  have hl := block_of_some h
  exact (World.cell?_alloc_lt ((w.alloc o1).alloc o2) _ a (by first | exact hl | (simp; omega) | omega)).trans (cellS2 w a o1 o2 h)
theorem frozenS3 (w : World) (a : Addr) (o1 o2 o3 : Obj) (h : (w.cell? a).isSome = true) : (((w.alloc o1).alloc o2).alloc o3).frozen? a = w.frozen? a := by
  have hl := block_of_some h
  exact (World.frozen?_alloc_old ((w.alloc o1).alloc o2) _ a (by first | exact hl | (simp; omega) | omega)).trans (frozenS2 w a o1 o2 h)
theorem cellS4 (w : World) (a : Addr) (o1 o2 o3 o4 : Obj) (h : (w.cell? a).isSome = true) : ((((w.alloc o1).alloc o2).alloc o3).alloc o4).cell? a = w.cell? a := by
  have hl := block_of_some h
  exact (World.cell?_alloc_lt (((w.alloc o1).alloc o2).alloc o3) _ a (by first | exact hl | (simp; omega) | omega)).trans (cellS3 w a o1 o2 o3 h)
theorem frozenS4 (w : World) (a : Addr) (o1 o2 o3 o4 : Obj) (h : (w.cell? a).isSome = true) : ((((w.alloc o1).alloc o2).alloc o3).alloc o4).frozen? a = w.frozen? a := by
  have hl := block_of_some h
  exact (World.frozen?_alloc_old (((w.alloc o1).alloc o2).alloc o3) _ a (by first | exact hl | (simp; omega) | omega)).trans (frozenS3 w a o1 o2 o3 h)
theorem cellS5 (w : World) (a : Addr) (o1 o2 o3 o4 o5 : Obj) (h : (w.cell? a).isSome = true) : (((((w.alloc o1).alloc o2).alloc o3).alloc o4).alloc o5).cell? a = w.cell? a := by
  have hl := block_of_some h
  exact (World.cell?_alloc_lt ((((w.alloc o1).alloc o2).alloc o3).alloc o4) _ a (by first | exact hl | (simp; omega) | omega)).trans (cellS4 w a o1 o2 o3 o4 h)
theorem frozenS5 (w : World) (a : Addr) (o1 o2 o3 o4 o5 : Obj) (h : (w.cell? a).isSome = true) : (((((w.alloc o1).alloc o2).alloc o3).alloc o4).alloc o5).frozen? a = w.frozen? a := by
  have hl := block_of_some h
  exact (World.frozen?_alloc_old ((((w.alloc o1).alloc o2).alloc o3).alloc o4) _ a (by first | exact hl | (simp; omega) | omega)).trans (frozenS4 w a o1 o2 o3 o4 h)
theorem cellS6 (w : World) (a : Addr) (o1 o2 o3 o4 o5 o6 : Obj) (h : (w.cell? a).isSome = true) : ((((((w.alloc o1).alloc o2).alloc o3).alloc o4).alloc o5).alloc o6).cell? a = w.cell? a := by
  have hl := block_of_some h
  exact (World.cell?_alloc_lt (((((w.alloc o1).alloc o2).alloc o3).alloc o4).alloc o5) _ a (by first | exact hl | (simp; omega) | omega)).trans (cellS5 w a o1 o2 o3 o4 o5 h)
theorem frozenS6 (w : World) (a : Addr) (o1 o2 o3 o4 o5 o6 : Obj) (h : (w.cell? a).isSome = true) : ((((((w.alloc o1).alloc o2).alloc o3).alloc o4).alloc o5).alloc o6).frozen? a = w.frozen? a := by
  have hl := block_of_some h
  exact (World.frozen?_alloc_old (((((w.alloc o1).alloc o2).alloc o3).alloc o4).alloc o5) _ a (by first | exact hl | (simp; omega) | omega)).trans (frozenS5 w a o1 o2 o3 o4 o5 h)
theorem cellS7 (w : World) (a : Addr) (o1 o2 o3 o4 o5 o6 o7 : Obj) (h : (w.cell? a).isSome = true) : (((((((w.alloc o1).alloc o2).alloc o3).alloc o4).alloc o5).alloc o6).alloc o7).cell? a = w.cell? a := by
  have hl := block_of_some h
  exact (World.cell?_alloc_lt ((((((w.alloc o1).alloc o2).alloc o3).alloc o4).alloc o5).alloc o6) _ a (by first | exact hl | (simp; omega) | omega)).trans (cellS6 w a o1 o2 o3 o4 o5 o6 h)
theorem frozenS7 (w : World) (a : Addr) (o1 o2 o3 o4 o5 o6 o7 : Obj) (h : (w.cell? a).isSome = true) : (((((((w.alloc o1).alloc o2).alloc o3).alloc o4).alloc o5).alloc o6).alloc o7).frozen? a = w.frozen? a := by
  have hl := block_of_some h
  exact (World.frozen?_alloc_old ((((((w.alloc o1).alloc o2).alloc o3).alloc o4).alloc o5).alloc o6) _ a (by first | exact hl | (simp; omega) | omega)).trans (frozenS6 w a o1 o2 o3 o4 o5 o6 h)
theorem cellS8 (w : World) (a : Addr) (o1 o2 o3 o4 o5 o6 o7 o8 : Obj) (h : (w.cell? a).isSome = true) : ((((((((w.alloc o1).alloc o2).alloc o3).alloc o4).alloc o5).alloc o6).alloc o7).alloc o8).cell? a = w.cell? a := by
  have hl := block_of_some h
  exact (World.cell?_alloc_lt (((((((w.alloc o1).alloc o2).alloc o3).alloc o4).alloc o5).alloc o6).alloc o7) _ a (by first | exact hl | (simp; omega) | omega)).trans (cellS7 w a o1 o2 o3 o4 o5 o6 o7 h)
theorem frozenS8 (w : World) (a : Addr) (o1 o2 o3 o4 o5 o6 o7 o8 : Obj) (h : (w.cell? a).isSome = true) : ((((((((w.alloc o1).alloc o2).alloc o3).alloc o4).alloc o5).alloc o6).alloc o7).alloc o8).frozen? a = w.frozen? a := by
  have hl := block_of_some h
  exact (World.frozen?_alloc_old (((((((w.alloc o1).alloc o2).alloc o3).alloc o4).alloc o5).alloc o6).alloc o7) _ a (by first | exact hl | (simp; omega) | omega)).trans (frozenS7 w a o1 o2 o3 o4 o5 o6 o7 h)
theorem ret_int {k : IntKind} {a b : Int} (h : a = b) : Ending.returned (.int k a) = .returned (.int k b) := by rw [h]
attribute [local go_sem] cellS1 frozenS1 cellS2 frozenS2 cellS3 frozenS3 cellS4 frozenS4 cellS5 frozenS5 cellS6 frozenS6 cellS7 frozenS7 cellS8 frozenS8
theorem quiet_add {P : Program} {f : FuncId} {args : Array Value} {w : World} {a n : Nat} {v : Value}
    (h : Calls P f args (w.drewN (a + n)) fun e w' => e = .returned v ∧ ∃ m, w' = (w.drewN (a + n)).drewN m) :
    Calls P f args (w.drewN (a + n)) fun e w'' => e = .returned v ∧ ∃ m, w'' = w.drewN (a + m) :=
  h.mono fun _ _ ⟨he, m, hm⟩ => ⟨he, n + m, by rw [hm, World.drewN_drewN, Nat.add_assoc]⟩
theorem quiet_add_same {P : Program} {f : FuncId} {args : Array Value} {w : World} {a n : Nat} {v : Value}
    (h : Calls P f args (w.drewN (a + n)) fun e w' => e = .returned v ∧ w' = w.drewN (a + n)) :
    Calls P f args (w.drewN (a + n)) fun e w'' => e = .returned v ∧ ∃ m, w'' = w.drewN (a + m) :=
  h.mono fun _ _ ⟨he, hm⟩ => ⟨he, n, hm⟩
theorem quiet_add_left {P : Program} {f : FuncId} {args : Array Value} {w : World} {a n : Nat} {v : Value}
    (h : Calls P f args (w.drewN (a + n)) fun e w' => e = .returned v ∧ w.drewN (a + n) = w') :
    Calls P f args (w.drewN (a + n)) fun e w'' => e = .returned v ∧ ∃ m, w'' = w.drewN (a + m) :=
  h.mono fun _ _ ⟨he, hm⟩ => ⟨he, n, hm.symm⟩
theorem quiet_left {P : Program} {f : FuncId} {args : Array Value} {w : World} {n : Nat} {v : Value}
    (h : Calls P f args (w.drewN n) fun e w' => e = .returned v ∧ w.drewN n = w') : Calls P f args (w.drewN n) fun e w'' => e = .returned v ∧ ∃ m, w'' = w.drewN m :=
  h.mono fun _ _ ⟨he, hm⟩ => ⟨he, n, hm.symm⟩
open Go.Proofs.Ytiiaooaigeenoaa.QBase Go.Proofs.Ytiiaooaigeenoaa.Sch
theorem wp_gen {P : Program} {c : Code} {Q : Exit → Act → World → Prop} {a : Act} {w : World} (F : World → Prop) (hF : F w) (h : ∀ W, F W → Code.wp P c Q a W) : Code.wp P c Q a w := h w hF
theorem none_ok (g : Nat) (n f s dl ks ee wd rh sl cp i md id : Int) (z w : World) (hI : IsS43 z w g n f s dl ks ee wd rh sl cp i md id true) (hB : Below z.heap.size z w) : Calls Try.prog 25 #[.pointer (some ⟨g, 0, none⟩)] w fun e w' => e = .returned (.bool false) ∧ w' = w := by
  have c13 : w.cell? ⟨g, 13, none⟩ = some (.bool true) := (blk_cell hI.1 13).trans rfl
  clear hI hB
  go_enter Try.func25, Try.ntmps25
  go_wp2
  go_ret
  exact ⟨rfl, rfl⟩
theorem mode_ok (g : Nat) (n f s dl ks ee wd rh sl cp i md id : Int) (z w : World) (hI : IsS43 z w g n f s dl ks ee wd rh sl cp i md id true) (hB : Below z.heap.size z w) : Calls Try.prog 15 #[.pointer (some ⟨g, 0, none⟩)] w fun e w' => e = .returned (.int .i64 md) ∧ w' = w := by
  have c11 : w.cell? ⟨g, 11, none⟩ = some (.int .i64 md) := (blk_cell hI.1 11).trans rfl
  have c13 : w.cell? ⟨g, 13, none⟩ = some (.bool true) := (blk_cell hI.1 13).trans rfl
  clear hI hB
  go_enter Try.func15, Try.ntmps15
  go_wp2
  go_ret
  exact ⟨rfl, rfl⟩
theorem idle_ok (g : Nat) (n f s dl ks ee wd rh sl cp i md id : Int) (z w : World) (hI : IsS43 z w g n f s dl ks ee wd rh sl cp i md id true) (hB : Below z.heap.size z w) : Calls Try.prog 13 #[.pointer (some ⟨g, 0, none⟩)] w fun e w' => e = .returned (.int .i64 id) ∧ w' = w := by
  have c12 : w.cell? ⟨g, 12, none⟩ = some (.int .i64 id) := (blk_cell hI.1 12).trans rfl
  have c13 : w.cell? ⟨g, 13, none⟩ = some (.bool true) := (blk_cell hI.1 13).trans rfl
  clear hI hB
  go_enter Try.func13, Try.ntmps13
  go_wp2
  go_ret
  exact ⟨rfl, rfl⟩
theorem wait_active (g : Nat) (n f s dl ks ee wd rh sl cp i md id : Int) (z w : World) (hI : IsS43 z w g n f s dl ks ee wd rh sl cp i md id true) (hB : Below z.heap.size z w) (hm : md = 4) : Calls Try.prog 30 #[.pointer (some ⟨g, 0, none⟩)] w fun e w' => e = .returned (.tuple #[]) ∧ IsS43 z w' g n f s dl ks ee wd rh sl cp i md 0 true ∧ Below z.heap.size z w' ∧ KeepBut w w' g none := by
  have c11 : w.cell? ⟨g, 11, none⟩ = some (.int .i64 md) := (blk_cell hI.1 11).trans rfl
  have c12 : w.cell? ⟨g, 12, none⟩ = some (.int .i64 id) := (blk_cell hI.1 12).trans rfl
  have fz12 : w.frozen? ⟨g, 12, none⟩ = false := blk_frozen hI.1 12
  have HI := Aside0.mk hI
  have HB := Aside0.mk hB
  have hmb : (md == 4) = true := beq_iff_eq.2 hm
  clear hI hB hm
  go_enter Try.func30, Try.ntmps30
  go_wp2
  refine bodyPost_ret (results_none rfl _ _ _) rfl ?_
  exact ⟨rfl, IsS43.set_12 HI.out _, HB.out.setCell HI.out.2 _, (KeepBut.refl _ _ _).set_ _ _⟩
set_option maxRecDepth 100000 in
set_option maxHeartbeats 4000000 in
theorem wait_on (g : Nat) (n f s dl ks ee wd rh sl cp i md id : Int) (z w : World) (hI : IsS43 z w g n f s dl ks ee wd rh sl cp i md id true) (hB : Below z.heap.size z w) (hm : md ≠ 4) (hk : Ok n f s dl ks ee wd rh sl cp) (i0 : 0 ≤ i) (i1 : i < n) (j0 : 0 ≤ id) (jm : id ≤ 1000000) (j1 : id + 1 < pat n s dl wd rh sl i) : Calls Try.prog 30 #[.pointer (some ⟨g, 0, none⟩)] w fun e w' => e = .returned (.tuple #[]) ∧ IsS43 z w' g n f s dl ks ee wd rh sl cp i md (id + 1) true ∧ Below z.heap.size z w' ∧ KeepBut w w' g none := by
  have c0 : w.cell? ⟨g, 0, none⟩ = some (.int .i64 n) := (blk_cell hI.1 0).trans rfl
  have c1 : w.cell? ⟨g, 1, none⟩ = some (.int .i64 f) := (blk_cell hI.1 1).trans rfl
  have c2 : w.cell? ⟨g, 2, none⟩ = some (.int .i64 s) := (blk_cell hI.1 2).trans rfl
  have c3 : w.cell? ⟨g, 3, none⟩ = some (.int .i64 dl) := (blk_cell hI.1 3).trans rfl
  have c4 : w.cell? ⟨g, 4, none⟩ = some (.int .i64 ks) := (blk_cell hI.1 4).trans rfl
  have c5 : w.cell? ⟨g, 5, none⟩ = some (.int .i64 ee) := (blk_cell hI.1 5).trans rfl
  have c6 : w.cell? ⟨g, 6, none⟩ = some (.int .i64 wd) := (blk_cell hI.1 6).trans rfl
  have c7 : w.cell? ⟨g, 7, none⟩ = some (.int .i64 rh) := (blk_cell hI.1 7).trans rfl
  have c8 : w.cell? ⟨g, 8, none⟩ = some (.int .i64 sl) := (blk_cell hI.1 8).trans rfl
  have c9 : w.cell? ⟨g, 9, none⟩ = some (.int .i64 cp) := (blk_cell hI.1 9).trans rfl
  have c10 : w.cell? ⟨g, 10, none⟩ = some (.int .i64 i) := (blk_cell hI.1 10).trans rfl
  have c11 : w.cell? ⟨g, 11, none⟩ = some (.int .i64 md) := (blk_cell hI.1 11).trans rfl
  have c12 : w.cell? ⟨g, 12, none⟩ = some (.int .i64 id) := (blk_cell hI.1 12).trans rfl
  have fz12 : w.frozen? ⟨g, 12, none⟩ = false := blk_frozen hI.1 12
  have hz : g < w.heap.size := blk_lt hI.1
  have HI := Aside0.mk hI
  have HB := Aside0.mk hB
  have HK := Aside0.mk hk
  have hpb := pat_bd n f s dl ks ee wd rh sl cp i hk i0 i1
  obtain ⟨hp0, hp1⟩ := hpb
  have hmb : (md == 4) = false := beq_eq_false_iff_ne.2 hm
  obtain ⟨p, hp⟩ : ∃ p, pat n s dl wd rh sl i = p := ⟨_, rfl⟩
  have HP := Aside0.mk (show sched_Patience.f 3 n f s dl ks ee wd rh sl cp i = some p by rw [← hp]; exact patience_in 0 n f s dl ks ee wd rh sl cp i hk i0 i1)
  rw [hp] at j1 hp0 hp1
  have hpb : decide (p ≤ id + 1) = false := decide_eq_false (by omega)
  clear hI hB hm hk hp
  go_enter Try.func30, Try.ntmps30
  go_upto_region 3 with (fail)
  refine wp_gen (fun W => IsS43 z W g n f s dl ks ee wd rh sl cp i md (id + 1) true ∧ Below z.heap.size z W ∧ KeepBut w W g none ∧ g < W.heap.size) ⟨IsS43.set_12 HI.out _, HB.out.setCell HI.out.2 _, (KeepBut.refl _ _ _).set_ _ _, by simpa [World.setCell] using hz⟩ ?_
  rintro W ⟨hI2, hB2, hK2, hz2⟩
  clear HI HB c0 c1 c2 c3 c4 c5 c6 c7 c8 c9 c10 c11 c12 fz12
  have d0 : W.cell? ⟨g, 0, none⟩ = some (.int .i64 n) := (blk_cell hI2.1 0).trans rfl
  have d1 : W.cell? ⟨g, 1, none⟩ = some (.int .i64 f) := (blk_cell hI2.1 1).trans rfl
  have d2 : W.cell? ⟨g, 2, none⟩ = some (.int .i64 s) := (blk_cell hI2.1 2).trans rfl
  have d3 : W.cell? ⟨g, 3, none⟩ = some (.int .i64 dl) := (blk_cell hI2.1 3).trans rfl
  have d4 : W.cell? ⟨g, 4, none⟩ = some (.int .i64 ks) := (blk_cell hI2.1 4).trans rfl
  have d5 : W.cell? ⟨g, 5, none⟩ = some (.int .i64 ee) := (blk_cell hI2.1 5).trans rfl
  have d6 : W.cell? ⟨g, 6, none⟩ = some (.int .i64 wd) := (blk_cell hI2.1 6).trans rfl
  have d7 : W.cell? ⟨g, 7, none⟩ = some (.int .i64 rh) := (blk_cell hI2.1 7).trans rfl
  have d8 : W.cell? ⟨g, 8, none⟩ = some (.int .i64 sl) := (blk_cell hI2.1 8).trans rfl
  have d9 : W.cell? ⟨g, 9, none⟩ = some (.int .i64 cp) := (blk_cell hI2.1 9).trans rfl
  have d10 : W.cell? ⟨g, 10, none⟩ = some (.int .i64 i) := (blk_cell hI2.1 10).trans rfl
  have d12 : W.cell? ⟨g, 12, none⟩ = some (.int .i64 (id + 1)) := (blk_cell hI2.1 12).trans rfl
  have HI := Aside0.mk hI2
  have HB := Aside0.mk hB2
  have HK2 := Aside0.mk hK2
  clear hI2 hB2 hK2
  have q1 := Aside0.mk (IsS43.drew HI.out)
  have q2 := Aside0.mk (below_drew HB.out)
  have q3 := Aside0.mk (show KeepBut w W.drew g none from HK2.out)
  go_region_held3 (fun W => W.cell? ⟨g, 0, none⟩ = some (.int .i64 n) ∧ W.cell? ⟨g, 1, none⟩ = some (.int .i64 f) ∧ W.cell? ⟨g, 2, none⟩ = some (.int .i64 s) ∧ W.cell? ⟨g, 3, none⟩ = some (.int .i64 dl) ∧ W.cell? ⟨g, 4, none⟩ = some (.int .i64 ks) ∧ W.cell? ⟨g, 5, none⟩ = some (.int .i64 ee) ∧ W.cell? ⟨g, 6, none⟩ = some (.int .i64 wd) ∧ W.cell? ⟨g, 7, none⟩ = some (.int .i64 rh) ∧ W.cell? ⟨g, 8, none⟩ = some (.int .i64 sl) ∧ W.cell? ⟨g, 9, none⟩ = some (.int .i64 cp) ∧ W.cell? ⟨g, 10, none⟩ = some (.int .i64 i) ∧ W.cell? ⟨g, 12, none⟩ = some (.int .i64 (id + 1)) ∧ Aside0 (IsS43 z W g n f s dl ks ee wd rh sl cp i md (id + 1) true) ∧ Aside0 (Below z.heap.size z W) ∧ Aside0 (KeepBut w W g none)) (go_keep) (first | (go_at_call 11; go_loud (refine (sched_Patience.calls 3 n f s dl ks ee wd rh sl cp i p _ HP.out).mono ?_; rintro e w2 ⟨rfl, hb⟩; have e1 : Aside0 (IsS43 z w2 g n f s dl ks ee wd rh sl cp i md (id + 1) true) := ⟨blk_below q1.out.1 hb, q1.out.2⟩; have e2 := Aside0.mk (below_step q2.out hb); have e3 := Aside0.mk (q3.out.trans (KeepBut.of_below hb g none) (Or.inl rfl)); have k0 : w2.cell? ⟨g, 0, none⟩ = some (.int .i64 n) := (blk_cell e1.out.1 0).trans rfl; have k1 : w2.cell? ⟨g, 1, none⟩ = some (.int .i64 f) := (blk_cell e1.out.1 1).trans rfl; have k2 : w2.cell? ⟨g, 2, none⟩ = some (.int .i64 s) := (blk_cell e1.out.1 2).trans rfl; have k3 : w2.cell? ⟨g, 3, none⟩ = some (.int .i64 dl) := (blk_cell e1.out.1 3).trans rfl; have k4 : w2.cell? ⟨g, 4, none⟩ = some (.int .i64 ks) := (blk_cell e1.out.1 4).trans rfl; have k5 : w2.cell? ⟨g, 5, none⟩ = some (.int .i64 ee) := (blk_cell e1.out.1 5).trans rfl; have k6 : w2.cell? ⟨g, 6, none⟩ = some (.int .i64 wd) := (blk_cell e1.out.1 6).trans rfl; have k7 : w2.cell? ⟨g, 7, none⟩ = some (.int .i64 rh) := (blk_cell e1.out.1 7).trans rfl; have k8 : w2.cell? ⟨g, 8, none⟩ = some (.int .i64 sl) := (blk_cell e1.out.1 8).trans rfl; have k9 : w2.cell? ⟨g, 9, none⟩ = some (.int .i64 cp) := (blk_cell e1.out.1 9).trans rfl; have k10 : w2.cell? ⟨g, 10, none⟩ = some (.int .i64 i) := (blk_cell e1.out.1 10).trans rfl; have k12 : w2.cell? ⟨g, 12, none⟩ = some (.int .i64 (id + 1)) := (blk_cell e1.out.1 12).trans rfl; clear hb)))
  go_wp2
  go_end0
  exact ⟨rfl, e1.out, e2.out, e3.out⟩
set_option maxRecDepth 100000 in
set_option maxHeartbeats 4000000 in
theorem wait_off (g : Nat) (n f s dl ks ee wd rh sl cp i md id : Int) (z w : World) (hI : IsS43 z w g n f s dl ks ee wd rh sl cp i md id true) (hB : Below z.heap.size z w) (hm : md ≠ 4) (hk : Ok n f s dl ks ee wd rh sl cp) (i0 : 0 ≤ i) (i1 : i < n) (j0 : 0 ≤ id) (jm : id ≤ 1000000) (j1 : pat n s dl wd rh sl i ≤ id + 1) : Calls Try.prog 30 #[.pointer (some ⟨g, 0, none⟩)] w fun e w' => e = .returned (.tuple #[]) ∧ IsS43 z w' g n f s dl ks ee wd rh sl cp i 1 (id + 1) true ∧ Below z.heap.size z w' ∧ KeepBut w w' g none := by
  have c0 : w.cell? ⟨g, 0, none⟩ = some (.int .i64 n) := (blk_cell hI.1 0).trans rfl
  have c1 : w.cell? ⟨g, 1, none⟩ = some (.int .i64 f) := (blk_cell hI.1 1).trans rfl
  have c2 : w.cell? ⟨g, 2, none⟩ = some (.int .i64 s) := (blk_cell hI.1 2).trans rfl
  have c3 : w.cell? ⟨g, 3, none⟩ = some (.int .i64 dl) := (blk_cell hI.1 3).trans rfl
  have c4 : w.cell? ⟨g, 4, none⟩ = some (.int .i64 ks) := (blk_cell hI.1 4).trans rfl
  have c5 : w.cell? ⟨g, 5, none⟩ = some (.int .i64 ee) := (blk_cell hI.1 5).trans rfl
  have c6 : w.cell? ⟨g, 6, none⟩ = some (.int .i64 wd) := (blk_cell hI.1 6).trans rfl
  have c7 : w.cell? ⟨g, 7, none⟩ = some (.int .i64 rh) := (blk_cell hI.1 7).trans rfl
  have c8 : w.cell? ⟨g, 8, none⟩ = some (.int .i64 sl) := (blk_cell hI.1 8).trans rfl
  have c9 : w.cell? ⟨g, 9, none⟩ = some (.int .i64 cp) := (blk_cell hI.1 9).trans rfl
  have c10 : w.cell? ⟨g, 10, none⟩ = some (.int .i64 i) := (blk_cell hI.1 10).trans rfl
  have c11 : w.cell? ⟨g, 11, none⟩ = some (.int .i64 md) := (blk_cell hI.1 11).trans rfl
  have c12 : w.cell? ⟨g, 12, none⟩ = some (.int .i64 id) := (blk_cell hI.1 12).trans rfl
  have fz12 : w.frozen? ⟨g, 12, none⟩ = false := blk_frozen hI.1 12
  have hz : g < w.heap.size := blk_lt hI.1
  have HI := Aside0.mk hI
  have HB := Aside0.mk hB
  have HK := Aside0.mk hk
  have hpb := pat_bd n f s dl ks ee wd rh sl cp i hk i0 i1
  obtain ⟨hp0, hp1⟩ := hpb
  have hmb : (md == 4) = false := beq_eq_false_iff_ne.2 hm
  obtain ⟨p, hp⟩ : ∃ p, pat n s dl wd rh sl i = p := ⟨_, rfl⟩
  have HP := Aside0.mk (show sched_Patience.f 3 n f s dl ks ee wd rh sl cp i = some p by rw [← hp]; exact patience_in 0 n f s dl ks ee wd rh sl cp i hk i0 i1)
  rw [hp] at j1 hp0 hp1
  have hpb : decide (p ≤ id + 1) = true := decide_eq_true (by omega)
  clear hI hB hm hk hp
  go_enter Try.func30, Try.ntmps30
  go_upto_region 3 with (fail)
  refine wp_gen (fun W => IsS43 z W g n f s dl ks ee wd rh sl cp i md (id + 1) true ∧ Below z.heap.size z W ∧ KeepBut w W g none ∧ g < W.heap.size) ⟨IsS43.set_12 HI.out _, HB.out.setCell HI.out.2 _, (KeepBut.refl _ _ _).set_ _ _, by simpa [World.setCell] using hz⟩ ?_
  rintro W ⟨hI2, hB2, hK2, hz2⟩
  clear HI HB c0 c1 c2 c3 c4 c5 c6 c7 c8 c9 c10 c11 c12 fz12
  have d0 : W.cell? ⟨g, 0, none⟩ = some (.int .i64 n) := (blk_cell hI2.1 0).trans rfl
  have d1 : W.cell? ⟨g, 1, none⟩ = some (.int .i64 f) := (blk_cell hI2.1 1).trans rfl
  have d2 : W.cell? ⟨g, 2, none⟩ = some (.int .i64 s) := (blk_cell hI2.1 2).trans rfl
  have d3 : W.cell? ⟨g, 3, none⟩ = some (.int .i64 dl) := (blk_cell hI2.1 3).trans rfl
  have d4 : W.cell? ⟨g, 4, none⟩ = some (.int .i64 ks) := (blk_cell hI2.1 4).trans rfl
  have d5 : W.cell? ⟨g, 5, none⟩ = some (.int .i64 ee) := (blk_cell hI2.1 5).trans rfl
  have d6 : W.cell? ⟨g, 6, none⟩ = some (.int .i64 wd) := (blk_cell hI2.1 6).trans rfl
  have d7 : W.cell? ⟨g, 7, none⟩ = some (.int .i64 rh) := (blk_cell hI2.1 7).trans rfl
  have d8 : W.cell? ⟨g, 8, none⟩ = some (.int .i64 sl) := (blk_cell hI2.1 8).trans rfl
  have d9 : W.cell? ⟨g, 9, none⟩ = some (.int .i64 cp) := (blk_cell hI2.1 9).trans rfl
  have d10 : W.cell? ⟨g, 10, none⟩ = some (.int .i64 i) := (blk_cell hI2.1 10).trans rfl
  have d12 : W.cell? ⟨g, 12, none⟩ = some (.int .i64 (id + 1)) := (blk_cell hI2.1 12).trans rfl
  have HI := Aside0.mk hI2
  have HB := Aside0.mk hB2
  have HK2 := Aside0.mk hK2
  clear hI2 hB2 hK2
  have q1 := Aside0.mk (IsS43.drew HI.out)
  have q2 := Aside0.mk (below_drew HB.out)
  have q3 := Aside0.mk (show KeepBut w W.drew g none from HK2.out)
  go_region_held3 (fun W => W.cell? ⟨g, 0, none⟩ = some (.int .i64 n) ∧ W.cell? ⟨g, 1, none⟩ = some (.int .i64 f) ∧ W.cell? ⟨g, 2, none⟩ = some (.int .i64 s) ∧ W.cell? ⟨g, 3, none⟩ = some (.int .i64 dl) ∧ W.cell? ⟨g, 4, none⟩ = some (.int .i64 ks) ∧ W.cell? ⟨g, 5, none⟩ = some (.int .i64 ee) ∧ W.cell? ⟨g, 6, none⟩ = some (.int .i64 wd) ∧ W.cell? ⟨g, 7, none⟩ = some (.int .i64 rh) ∧ W.cell? ⟨g, 8, none⟩ = some (.int .i64 sl) ∧ W.cell? ⟨g, 9, none⟩ = some (.int .i64 cp) ∧ W.cell? ⟨g, 10, none⟩ = some (.int .i64 i) ∧ W.cell? ⟨g, 12, none⟩ = some (.int .i64 (id + 1)) ∧ Aside0 (IsS43 z W g n f s dl ks ee wd rh sl cp i md (id + 1) true) ∧ Aside0 (Below z.heap.size z W) ∧ Aside0 (KeepBut w W g none)) (go_keep) (first | (go_at_call 11; go_loud (refine (sched_Patience.calls 3 n f s dl ks ee wd rh sl cp i p _ HP.out).mono ?_; rintro e w2 ⟨rfl, hb⟩; have e1 : Aside0 (IsS43 z w2 g n f s dl ks ee wd rh sl cp i md (id + 1) true) := ⟨blk_below q1.out.1 hb, q1.out.2⟩; have e2 := Aside0.mk (below_step q2.out hb); have e3 := Aside0.mk (q3.out.trans (KeepBut.of_below hb g none) (Or.inl rfl)); have k0 : w2.cell? ⟨g, 0, none⟩ = some (.int .i64 n) := (blk_cell e1.out.1 0).trans rfl; have k1 : w2.cell? ⟨g, 1, none⟩ = some (.int .i64 f) := (blk_cell e1.out.1 1).trans rfl; have k2 : w2.cell? ⟨g, 2, none⟩ = some (.int .i64 s) := (blk_cell e1.out.1 2).trans rfl; have k3 : w2.cell? ⟨g, 3, none⟩ = some (.int .i64 dl) := (blk_cell e1.out.1 3).trans rfl; have k4 : w2.cell? ⟨g, 4, none⟩ = some (.int .i64 ks) := (blk_cell e1.out.1 4).trans rfl; have k5 : w2.cell? ⟨g, 5, none⟩ = some (.int .i64 ee) := (blk_cell e1.out.1 5).trans rfl; have k6 : w2.cell? ⟨g, 6, none⟩ = some (.int .i64 wd) := (blk_cell e1.out.1 6).trans rfl; have k7 : w2.cell? ⟨g, 7, none⟩ = some (.int .i64 rh) := (blk_cell e1.out.1 7).trans rfl; have k8 : w2.cell? ⟨g, 8, none⟩ = some (.int .i64 sl) := (blk_cell e1.out.1 8).trans rfl; have k9 : w2.cell? ⟨g, 9, none⟩ = some (.int .i64 cp) := (blk_cell e1.out.1 9).trans rfl; have k10 : w2.cell? ⟨g, 10, none⟩ = some (.int .i64 i) := (blk_cell e1.out.1 10).trans rfl; have k12 : w2.cell? ⟨g, 12, none⟩ = some (.int .i64 (id + 1)) := (blk_cell e1.out.1 12).trans rfl; clear hb)))
  have k11 : w2.cell? ⟨g, 11, none⟩ = some (.int .i64 md) := (blk_cell e1.out.1 11).trans rfl
  have fz11 : w2.frozen? ⟨g, 11, none⟩ = false := blk_frozen e1.out.1 11
  go_wp2
  go_end0
  exact ⟨rfl, IsS43.set_11 e1.out _, e2.out.setCell e1.out.2 _, e3.out.set_ _ _⟩
end Go.Proofs.Ytiiaooaigeenoaa.Mode1
