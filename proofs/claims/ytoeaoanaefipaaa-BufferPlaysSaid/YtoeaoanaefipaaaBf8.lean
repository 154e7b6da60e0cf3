/- Taking and dropping. -/
import Derived.Test.YtoeaoanaefipaaaProg
import Derived.Below
import Derived.Deep.Draws
import Derived.Deep.AppendLies
import Derived.Maps.AppendAt
import Derived.OwnWalk
import Derived.Laws.BytesArg
import Derived.Laws.MakeOwn
import Derived.Laws.OwnMore
import Derived.Deep.OwnRows
import Derived.Tactics
import Derived.Lib.ConvBytes
import Derived.Laws.Slices
import Derived.WalkKit
import Derived.KernelRfl
import Derived.RowKit3
import Derived.Deep.LoopGhost
import Derived.Deep.QuietTactic
import Derived.BigQuiet
import Derived.WideLaws
import Derived.Deep.DeepCutAuto
import Derived.Deep.CutBlock
import Derived.Deep.RegionHeld3
import Derived.Laws.Rows
import Derived.Lib.AppendStr
import Derived.ArgAppend
import Derived.Laws.IdiomCopy
import Derived.OrdersHeld
import Derived.Laws.BitsLemmas
import Derived.RowKit
import Derived.RegionTactic
import Derived.ChangeAlike
import Derived.Outline
import Derived.LoopTactic
import Derived.WalkSpells
import Derived.WalkLawsBesides
import Derived.Lib.Hide
import Derived.StillTailTactics
import Derived.Deep.RegionWith
import Derived.Deep.RegionLaw
import Derived.Deep.DeepFit
import Derived.Deep.DeepMust
import Derived.Test.YtoeaoanaefipaaaWWords
import Derived.Test.YtoeaoanaefipaaaWLast
import Derived.Test.YtoeaoanaefipaaaWTab
import Derived.Test.YtoeaoanaefipaaaWFour
import Derived.Test.YtoeaoanaefipaaaWQPut
import Derived.Test.YtoeaoanaefipaaaWApart
import Derived.Test.YtoeaoanaefipaaaWArr
import Derived.Test.YtoeaoanaefipaaaWZeros
import Derived.Test.YtoeaoanaefipaaaWFoot
import Derived.Test.YtoeaoanaefipaaaWKept
import Derived.Test.YtoeaoanaefipaaaWShare
import Derived.Test.YtoeaoanaefipaaaWN
import Derived.Test.YtoeaoanaefipaaaWFootNe
import Derived.Test.YtoeaoanaefipaaaWAt
import Derived.Test.YtoeaoanaefipaaaWEqStruct
import Derived.Test.YtoeaoanaefipaaaWRepsOne
import Derived.Test.YtoeaoanaefipaaaWInv
import Derived.Test.YtoeaoanaefipaaaWInvWords
import Derived.Test.YtoeaoanaefipaaaWGuard
import Derived.Test.YtoeaoanaefipaaaWNEv
import Derived.Test.YtoeaoanaefipaaaWMore
import Derived.Test.YtoeaoanaefipaaaBf7
namespace Go.Proofs.Ytoeaoanaefipaaa.Bf8
open Go.RowKit Go.Proofs.YtoeaoanaefipaaaW.PrintWords Go.Proofs.YtoeaoanaefipaaaW.PrintLast Go.Proofs.YtoeaoanaefipaaaW.PrintMore 
attribute [local go_sem] max2_int min2_int max_two min_two max_three min_three max_four min_four
set_option linter.unusedVariables false
set_option linter.unusedSimpArgs false
open Go.Maps Go.ChangeMaps Go.Proofs.Ytoeaoanaefipaaa.Bf1 Go.Proofs.Ytoeaoanaefipaaa.Bf2 Go.Proofs.Ytoeaoanaefipaaa.Bf3 Go.Proofs.Ytoeaoanaefipaaa.BfP Go.Proofs.Ytoeaoanaefipaaa.Bf4 Go.Proofs.Ytoeaoanaefipaaa.Bf5 Go.Proofs.Ytoeaoanaefipaaa.Bf6 Go.Proofs.Ytoeaoanaefipaaa.Bf7
attribute [local go_sem] cellS1 frozenS1 cellS2 frozenS2 cellS3 frozenS3 cellS4 frozenS4 cellS5 frozenS5 cellS6 frozenS6

/-- A block that a buffer may write. -/
def BufKind (o : Obj) : Prop := NotC o ∨ ∃ cs t fr, o = .cells cs t fr ∧ (t = 39 ∨ t = 53)
/-- Only blocks of buffers behind z are written. -/
structure Keep (z w w' : World) : Prop where
  os : w'.os = w.os
  tape : w'.tape = w.tape
  output : w'.output = w.output
  size : w.heap.size ≤ w'.heap.size
  block : ∀ j, j < w.heap.size → (j < z.heap.size ∨ ∃ o, w.heap[j]? = some o ∧ ¬ BufKind o) → w'.heap[j]? = w.heap[j]?
theorem Keep.refl (z w : World) : Keep z w w := ⟨rfl, rfl, rfl, Nat.le_refl _, fun _ _ _ => rfl⟩
theorem Keep.trans {z a b c : World} (h : Keep z a b) (k : Keep z b c) : Keep z a c :=
  ⟨k.os.trans h.os, k.tape.trans h.tape, k.output.trans h.output, Nat.le_trans h.size k.size, fun j hj hk => by
    have e1 := h.block j hj hk
    refine (k.block j (Nat.lt_of_lt_of_le hj h.size) ?_).trans e1
    rcases hk with hk | ⟨o, ho, hn⟩
    · exact Or.inl hk
    · exact Or.inr ⟨o, e1.trans ho, hn⟩⟩
theorem Keep.grown {z w w' : World} {row : Option Nat} (hg : w.grownBy w' row) (hr : ∀ r, row = some r → z.heap.size ≤ r ∧ ∃ o, w.heap[r]? = some o ∧ BufKind o) : Keep z w w' :=
  ⟨hg.os, hg.tape, hg.output, hg.size, fun j hj hk => hg.block j hj (fun e => by
    obtain ⟨h1, o, ho, hb⟩ := hr j e.symm
    rcases hk with hk | ⟨o', ho', hn⟩
    · omega
    · rw [ho] at ho'
      cases ho'
      exact hn hb)⟩
theorem Keep.of_below {z w w' : World} (hb : Below w.heap.size w w') : Keep z w w' := Keep.grown (row := none) (grown_below hb) (fun r e => by cases e)
theorem Keep.below {z w w' : World} {m : Nat} (h : Keep z w w') (hb : Below m z w) (hm : m ≤ z.heap.size) : Below m z w' :=
  ⟨h.os.trans hb.os, h.tape.trans hb.tape, h.output.trans hb.output, Nat.le_trans hb.size h.size, fun j hj => (h.block j (by have := hb.size; omega) (Or.inl (by omega))).trans (hb.block j hj)⟩
theorem kind39 (cs : Array Value) : BufKind (.cells cs 39 (0, 0)) := Or.inr ⟨cs, 39, _, rfl, Or.inl rfl⟩
theorem kind53 (cs : Array Value) : BufKind (.cells cs 53 (0, 0)) := Or.inr ⟨cs, 53, _, rfl, Or.inr rfl⟩
theorem Keep.upd {z w w' : World} {g bm : Nat} {mo : Int} {bv : Value} {lo : Int} {n : Nat} {M : Int → Int → Int} (h : Upd (fun j => j = g ∨ j = bm) w w') (hI : IsB z w g bm mo bv lo) (hM : CMap w bm n M) (hzb : z.heap.size ≤ bm) : Keep z w w' :=
  ⟨h.os, h.tape, h.output, h.size, fun j hj hk => h.block j hj (fun e => by
    rcases e with rfl | rfl
    · rcases hk with hk | ⟨o, ho, hn⟩
      · have := hI.2; omega
      · rw [hI.1] at ho
        cases ho
        exact hn (kind39 _)
    · rcases hk with hk | ⟨o, ho, hn⟩
      · omega
      · obtain ⟨o', ho', hc⟩ := CMap.obj hM
        rw [ho] at ho'
        cases ho'
        exact hn (Or.inl hc))⟩
/-- A buffer in memory whose items are L. -/
def IsBuf (z w : World) (g : Nat) (mo : Int) (L : List It) (lo : Int) (m : Nat) : Prop :=
  ∃ (bm : Nat) (A : Option Addr) (c n : Nat), IsB z w g bm mo (.slice A L.length c) lo ∧ w.ownsRow z.heap.size 53 3 (.slice A L.length c) L.length (flat3 L) ∧ CMap w bm n (fun x y => (cnt L x y : Int)) ∧ n ≤ m ∧ z.heap.size ≤ bm ∧ (∀ x ∈ L, ItOk x) ∧ (L.length : Int) ≤ mo ∧ 1 ≤ mo ∧ mo ≤ 64 ∧ 0 ≤ lo ∧ lo ≤ m
theorem IsBuf.mono {z w : World} {g : Nat} {mo : Int} {L : List It} {lo : Int} {m m' : Nat} (h : IsBuf z w g mo L lo m) (hm : m ≤ m') : IsBuf z w g mo L lo m' := by
  obtain ⟨bm, A, c, n, h1, h2, h3, h4, h5, h6, h7, h8, h9, h10, h11⟩ := h
  exact ⟨bm, A, c, n, h1, h2, h3, by omega, h5, h6, h7, h8, h9, h10, by omega⟩
theorem IsBuf.ok {z w : World} {g : Nat} {mo : Int} {L : List It} {lo : Int} {m : Nat} (h : IsBuf z w g mo L lo m) : ∀ x ∈ L, ItOk x := by
  obtain ⟨bm, A, c, n, h1, h2, h3, h4, h5, h6, _⟩ := h
  exact h6
theorem IsBuf.len {z w : World} {g : Nat} {mo : Int} {L : List It} {lo : Int} {m : Nat} (h : IsBuf z w g mo L lo m) : (L.length : Int) ≤ mo ∧ 1 ≤ mo ∧ mo ≤ 64 := by
  obtain ⟨bm, A, c, n, h1, h2, h3, h4, h5, h6, h7, h8, h9, _⟩ := h
  exact ⟨h7, h8, h9⟩
theorem IsBuf.kept {z w w' : World} {g : Nat} {mo : Int} {L : List It} {lo : Int} {m : Nat} {row : Option Nat} (h : IsBuf z w g mo L lo m) (hg : w.grownBy w' row) (hr : ∀ r, row = some r → ∃ o, w.heap[r]? = some o ∧ ¬ BufKind o) : IsBuf z w' g mo L lo m := by
  obtain ⟨bm, A, c, n, h1, h2, h3, h4⟩ := h
  refine ⟨bm, A, c, n, h1.kept hg (fun e => ?_), h2.kept hg ?_, h3.kept hg (fun e => ?_), h4⟩
  · obtain ⟨o, ho, hn⟩ := hr g e.symm
    rw [h1.1] at ho
    cases ho
    exact hn (kind39 _)
  · cases hv : (Value.slice A L.length c).ownBlock with
    | none => exact Or.inl rfl
    | some k =>
      refine Or.inr (fun e => ?_)
      obtain ⟨_, cs, hcs⟩ := own_ge h2 hv
      obtain ⟨o, ho, hn⟩ := hr k e.symm
      rw [hcs] at ho
      cases ho
      exact hn (kind53 _)
  · obtain ⟨o, ho, hn⟩ := hr bm e.symm
    obtain ⟨o', ho', hc⟩ := CMap.obj h3
    rw [ho] at ho'
    cases ho'
    exact hn (Or.inl hc)
theorem IsBuf.below {z w w' : World} {g : Nat} {mo : Int} {L : List It} {lo : Int} {m : Nat} (h : IsBuf z w g mo L lo m) (hb : Below w.heap.size w w') : IsBuf z w' g mo L lo m := h.kept (row := none) (grown_below hb) (fun r e => by cases e)
theorem IsBuf.alloc {z w : World} {g : Nat} {mo : Int} {L : List It} {lo : Int} {m : Nat} (h : IsBuf z w g mo L lo m) (o : Obj) : IsBuf z (w.alloc o) g mo L lo m := h.below (below_alloc (Below.refl _ _) _)
theorem IsBuf.drewN {z w : World} {g : Nat} {mo : Int} {L : List It} {lo : Int} {m : Nat} (h : IsBuf z w g mo L lo m) (k : Nat) : IsBuf z (w.drewN k) g mo L lo m := h
theorem buf_new (mo : Int) (w : World) (h0 : 1 ≤ mo) (h1 : mo ≤ 64) : Calls Try.prog 7 #[.int .i64 mo] w fun en w' => ∃ g, en = .returned (.tuple #[.pointer (some ⟨g, 0, none⟩), .int .i64 0]) ∧ IsBuf w w' g mo [] 0 0 ∧ Below w.heap.size w w' :=
  (new_yes mo w h0 h1).mono fun en w' ⟨g, bm, e, a1, a2, a3, a4⟩ => ⟨g, e, ⟨bm, none, 0, 0, a1, World.ownsRow_nil _ _ _ _, a2, Nat.le_refl _, a3, fun x hx => absurd hx (List.not_mem_nil), by simp; omega, h0, h1, Int.le_refl _, by simp⟩, a4⟩
section
variable (g : Nat) (mo : Int) (L : List It) (lo : Int) (m : Nat) (z w : World)
theorem buf_len (h : IsBuf z w g mo L lo m) : Calls Try.prog 10 #[.pointer (some ⟨g, 0, none⟩)] w fun en w' => en = .returned (.int .i64 (L.length : Nat)) ∧ w' = w := by
  obtain ⟨bm, A, c, n, h1, _⟩ := h
  exact len_ok g bm mo A L.length c lo z w h1
theorem buf_lost (h : IsBuf z w g mo L lo m) : Calls Try.prog 15 #[.pointer (some ⟨g, 0, none⟩)] w fun en w' => en = .returned (.int .i64 lo) ∧ w' = w := by
  obtain ⟨bm, A, c, n, h1, _⟩ := h
  exact lost_ok g bm mo _ lo z w h1
theorem buf_count (h : IsBuf z w g mo L lo m) (a b : Int) (ha : (Lit.int .i64 a).wf = true) (hb : (Lit.int .i64 b).wf = true) : Calls Try.prog 13 #[.pointer (some ⟨g, 0, none⟩), .int .i64 a, .int .i64 b] w fun en w' => en = .returned (.int .i64 (cnt L a b : Nat)) ∧ w' = w := by
  obtain ⟨bm, A, c, n, h1, _, h3, _⟩ := h
  exact count_ok g bm mo _ lo n _ a b ha hb z w h1 h3
end
theorem buf_put_back {z w w' : World} {g bm : Nat} {mo lo : Int} {L K : List It} {m n' cl : Nat} {Al : Option Addr} (hL : IsBuf z w g mo L lo m) (hK : ∀ x ∈ K, x ∈ L) (hl : K.length ≤ L.length) (b1 : IsB z w' g bm mo (.slice Al K.length cl) lo) (b2 : w'.ownsRow z.heap.size 53 3 (.slice Al K.length cl) K.length (flat3 K)) (b3 : CMap w' bm n' (fun x y => (cnt K x y : Int))) (b4 : n' ≤ m + 64) (hzb : z.heap.size ≤ bm) : IsBuf z w' g mo K lo (m + 64) := by
  obtain ⟨bm0, A, c, n, h1, h2, h3, h4, h5, h6, h7, h8, h9, h10, h11⟩ := hL
  exact ⟨bm, Al, cl, n', b1, b2, b3, b4, hzb, fun x hx => h6 x (hK x hx), by omega, h8, h9, h10, by omega⟩
theorem take1of26 (i : Nat) (x : It) (p q : Int) (c : Nat) (w : World) (hc : w.heap[c]? = some (.cells #[.int .i64 p, .int .i64 q] 51 (0, 0))) : Calls Try.prog 26 #[.int .i64 (i : Int), iv x, .pointer (some ⟨c, 0, none⟩)] w fun en w' => en = .returned (.bool (!atC p q x)) ∧ Below w.heap.size w w' := take1_ok i x p q c w hc
def behindB (p q : Int) (x : It) : Bool := decide (p < x.1) || (x.1 == p && decide (q < x.2.1))
theorem take1of27 (i : Nat) (x : It) (p q : Int) (c : Nat) (w : World) (hc : w.heap[c]? = some (.cells #[.int .i64 p, .int .i64 q] 51 (0, 0))) : Calls Try.prog 27 #[.int .i64 (i : Int), iv x, .pointer (some ⟨c, 0, none⟩)] w fun en w' => en = .returned (.bool (behindB p q x)) ∧ Below w.heap.size w w' := drop1_ok i x p q c w hc
set_option maxRecDepth 100000 in
set_option maxHeartbeats 1000000 in
theorem buf_take (g : Nat) (mo : Int) (L : List It) (lo : Int) (m : Nat) (a b : Int) (z w : World) (h : IsBuf z w g mo L lo m) (hm : m + 64 < maxLen) : Calls Try.prog 9 #[.pointer (some ⟨g, 0, none⟩), .int .i64 a, .int .i64 b] w fun en w' => ∃ A c, en = .returned (.slice A (L.filter (atC a b)).length c) ∧ Gone w' w.heap.size (.slice A (L.filter (atC a b)).length c) (L.filter (atC a b)) ∧ IsBuf z w' g mo (L.filter (fun x => !atC a b x)) lo (m + 64) ∧ Keep z w w' := by
  have H := Aside0.mk h
  obtain ⟨bm, A, c, n, h1, h2, h3, h4, h5, h6, h7, h8, h9, h10, h11⟩ := h
  have HI := Aside0.mk h1
  have HR := Aside0.mk h2
  have HM := Aside0.mk h3
  have HL := Aside0.mk h6
  have hl : L.length ≤ 64 := by omega
  have hn : n + 64 < maxLen := by omega
  have HN := Aside0.mk hn
  clear h1 h2 h3 h6 hn hm
  go_enter Try.func9, Try.ntmps9
  go_wp2_with (first | (go_at_call 21; go_loud (refine (none_ok g bm mo _ lo z _ HI.out).mono ?_; rintro en w1 ⟨rfl, e1⟩; rw [e1]; clear e1)) | (go_at_call 24; go_loud (refine (out26_ok g bm mo A c lo n L w.heap.size #[.int .i64 a, .int .i64 b] 51 (fun _ x => !atC a b x) z _ (HI.out.alloc _) (HR.out.kept (World.grownBy_alloc _ _ none) (by cases (Value.slice A L.length c).ownBlock <;> simp)) (HM.out.alloc _) HL.out hl HN.out h5 (blk_new _ _) (fun i x W hc => take1of26 i x a b w.heap.size W hc)).mono ?_; rintro en w1 ⟨Ag, Al, cg, cl, n', rfl, b1, b2, b3, b4, b5, b6⟩; have B1 := Aside0.mk b1; have B2 := Aside0.mk b2; have B3 := Aside0.mk b3; have B4 := Aside0.mk b4; have B5 := Aside0.mk b5; have B6 := Aside0.mk b6; clear b1 b2 b3 b4 b5 b6)))
  go_ret
  have hb := buf_put_back H.out (outK_mem _ L) (outK_len _ L) B2.out B3.out B4.out (by have := B5.out; omega) h5
  have hk := (Keep.of_below (z := z) (below_alloc (Below.refl w.heap.size w) (.cells #[.int .i64 a, .int .i64 b] 51))).trans (Keep.upd B6.out (HI.out.alloc _) (HM.out.alloc _) h5)
  have e1 : outK (fun _ x => !atC a b x) L = L.filter (fun x => !atC a b x) := outK_const _ L
  have e2 : outG (fun _ x => !atC a b x) L = L.filter (atC a b) := by rw [outG_const]; congr 1; funext x; simp
  rw [e1] at hb
  have hg := B1.out
  rw [e2] at hg ⊢
  obtain ⟨vs, g1, g2⟩ := hg
  refine ⟨Ag, cg, rfl, ⟨vs, Go.Joins.ownsRow_le g1 (by simp), fun i hi => ?_⟩, hb, hk⟩
  obtain ⟨u, u1, k1, c1, cs, fr, u2, u3, u4⟩ := g2 i hi
  exact ⟨u, u1, k1, c1, cs, fr, u2, by simp at u3; omega, u4⟩
set_option maxRecDepth 100000 in
set_option maxHeartbeats 1000000 in
theorem buf_drop (g : Nat) (mo : Int) (L : List It) (lo : Int) (m : Nat) (a b : Int) (z w : World) (h : IsBuf z w g mo L lo m) (hm : m + 64 < maxLen) : Calls Try.prog 14 #[.pointer (some ⟨g, 0, none⟩), .int .i64 a, .int .i64 b] w fun en w' => en = .returned (.int .i64 (L.filter (fun x => !behindB a b x)).length) ∧ IsBuf z w' g mo (L.filter (behindB a b)) lo (m + 64) ∧ Keep z w w' := by
  have H := Aside0.mk h
  obtain ⟨bm, A, c, n, h1, h2, h3, h4, h5, h6, h7, h8, h9, h10, h11⟩ := h
  have HI := Aside0.mk h1
  have HR := Aside0.mk h2
  have HM := Aside0.mk h3
  have HL := Aside0.mk h6
  have hl : L.length ≤ 64 := by omega
  have hn : n + 64 < maxLen := by omega
  have HN := Aside0.mk hn
  clear h1 h2 h3 h6 hn hm
  go_enter Try.func14, Try.ntmps14
  go_wp2_with (first | (go_at_call 21; go_loud (refine (none_ok g bm mo _ lo z _ HI.out).mono ?_; rintro en w1 ⟨rfl, e1⟩; rw [e1]; clear e1)) | (go_at_call 24; go_loud (refine (out27_ok g bm mo A c lo n L w.heap.size #[.int .i64 a, .int .i64 b] 51 (fun _ x => behindB a b x) z _ (HI.out.alloc _) (HR.out.kept (World.grownBy_alloc _ _ none) (by cases (Value.slice A L.length c).ownBlock <;> simp)) (HM.out.alloc _) HL.out hl HN.out h5 (blk_new _ _) (fun i x W hc => take1of27 i x a b w.heap.size W hc)).mono ?_; rintro en w1 ⟨Ag, Al, cg, cl, n', rfl, b1, b2, b3, b4, b5, b6⟩; have B1 := Aside0.mk b1; have B2 := Aside0.mk b2; have B3 := Aside0.mk b3; have B4 := Aside0.mk b4; have B5 := Aside0.mk b5; have B6 := Aside0.mk b6; clear b1 b2 b3 b4 b5 b6)))
  go_ret
  have hb := buf_put_back H.out (outK_mem _ L) (outK_len _ L) B2.out B3.out B4.out (by have := B5.out; omega) h5
  have hk := (Keep.of_below (z := z) (below_alloc (Below.refl w.heap.size w) (.cells #[.int .i64 a, .int .i64 b] 51))).trans (Keep.upd B6.out (HI.out.alloc _) (HM.out.alloc _) h5)
  have e1 : outK (fun _ x => behindB a b x) L = L.filter (behindB a b) := outK_const _ L
  have e2 : outG (fun _ x => behindB a b x) L = L.filter (fun x => !behindB a b x) := outG_const _ L
  rw [e1] at hb
  rw [e2]
  exact ⟨rfl, hb, hk⟩
end Go.Proofs.Ytoeaoanaefipaaa.Bf8
