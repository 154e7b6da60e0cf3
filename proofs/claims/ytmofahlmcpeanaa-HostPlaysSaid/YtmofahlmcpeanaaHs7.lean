/- The reference host: what is submitted. -/
import Derived.Test.YtmofahlmcpeanaaProg
import Derived.Below
import Derived.Deep.Draws
import Derived.Deep.AppendLies
import Derived.Maps.AppendAt
import Derived.OwnWalk
import Derived.Laws.BytesArg
import Derived.Laws.MakeOwn
import Derived.Laws.OwnMore
import Derived.Deep.OwnRows
import Derived.Tactics
import Derived.Lib.ConvBytes
import Derived.Laws.Slices
import Derived.WalkKit
import Derived.KernelRfl
import Derived.RowKit3
import Derived.Deep.LoopGhost
import Derived.Deep.QuietTactic
import Derived.BigQuiet
import Derived.WideLaws
import Derived.Deep.DeepCutAuto
import Derived.Deep.CutBlock
import Derived.Deep.RegionHeld3
import Derived.Laws.Rows
import Derived.Lib.AppendStr
import Derived.ArgAppend
import Derived.Laws.IdiomCopy
import Derived.OrdersHeld
import Derived.Laws.BitsLemmas
import Derived.RowKit
import Derived.RegionTactic
import Derived.ChangeAlike
import Derived.Outline
import Derived.LoopTactic
import Derived.WalkSpells
import Derived.WalkLawsBesides
import Derived.Lib.Hide
import Derived.StillTailTactics
import Derived.Deep.RegionWith
import Derived.Deep.RegionLaw
import Derived.Deep.DeepFit
import Derived.Deep.DeepMust
import Derived.Test.YtmofahlmcpeanaaWWords
import Derived.Test.YtmofahlmcpeanaaWLast
import Derived.Test.YtmofahlmcpeanaaWTab
import Derived.Test.YtmofahlmcpeanaaWFour
import Derived.Test.YtmofahlmcpeanaaWQPut
import Derived.Test.YtmofahlmcpeanaaWApart
import Derived.Test.YtmofahlmcpeanaaWArr
import Derived.Test.YtmofahlmcpeanaaWZeros
import Derived.Test.YtmofahlmcpeanaaWFoot
import Derived.Test.YtmofahlmcpeanaaWKept
import Derived.Test.YtmofahlmcpeanaaWShare
import Derived.Test.YtmofahlmcpeanaaWN
import Derived.Test.YtmofahlmcpeanaaWFootNe
import Derived.Test.YtmofahlmcpeanaaWAt
import Derived.Test.YtmofahlmcpeanaaWEqStruct
import Derived.Test.YtmofahlmcpeanaaWRepsOne
import Derived.Test.YtmofahlmcpeanaaWInv
import Derived.Test.YtmofahlmcpeanaaWInvWords
import Derived.Test.YtmofahlmcpeanaaWGuard
import Derived.Test.YtmofahlmcpeanaaWNEv
import Derived.Test.YtmofahlmcpeanaaWMore
import Derived.Test.YtmofahlmcpeanaaHs6
namespace Go.Proofs.Ytmofahlmcpeanaa.Hs7
open Go.RowKit Go.Proofs.YtmofahlmcpeanaaW.PrintWords Go.Proofs.YtmofahlmcpeanaaW.PrintLast Go.Proofs.YtmofahlmcpeanaaW.PrintMore 
attribute [local go_sem] max2_int min2_int max_two min_two max_three min_three max_four min_four
set_option linter.unusedVariables false
set_option linter.unusedSimpArgs false
open Go.Joins Go.Proofs.Ytmofahlmcpeanaa.Hs1 Go.Proofs.Ytmofahlmcpeanaa.Hs2 Go.Proofs.Ytmofahlmcpeanaa.Hs3 Go.Proofs.Ytmofahlmcpeanaa.Hs4 Go.Proofs.Ytmofahlmcpeanaa.Hs5 Go.Proofs.Ytmofahlmcpeanaa.Hs6
attribute [local go_sem] cellS1 frozenS1 cellS2 frozenS2 cellS3 frozenS3 cellS4 frozenS4

theorem poll_ok (g a : Nat) (q : List (List Int)) (A : Option Addr) (n cap : Nat) (lo : Int) (z w : World) (hR : RingIs z w g a q (.slice A n cap) lo) : Calls Try.prog 12 #[.pointer (some ⟨g, 0, none⟩)] w fun en w' => en = .returned (.slice A n cap) ∧ RingIs z w' g a q (.slice none 0 0) lo ∧ Upd (fun j => j = g) w w' := by
  have HR := Aside0.mk hR
  obtain ⟨e18, _, f18, _⟩ := ring_c18 hR
  clear hR
  go_enter Try.func12, Try.ntmps12
  go_wp2_with (first | (go_at_call 19; go_loud (obtain ⟨vs, hI, hI2⟩ := HR.out; refine (none_ok g vs a q.length _ lo z _ hI).mono ?_; rintro en w1 ⟨rfl, e1⟩; rw [e1]; clear e1)))
  go_ret
  exact ⟨rfl, ring_set18 HR.out _, Upd.setCell (S := fun j => j = g) (p := ⟨g, 18, none⟩) (Upd.refl _ _) (Or.inl rfl) _⟩
theorem ring_lost (g a : Nat) (q : List (List Int)) (iv : Value) (lo : Int) (z w : World) (hR : RingIs z w g a q iv lo) : Calls Try.prog 13 #[.pointer (some ⟨g, 0, none⟩)] w fun en w' => en = .returned (.int .i64 lo) ∧ w' = w := by
  obtain ⟨vs, hI, _⟩ := hR
  exact lost_ok g vs a q.length iv lo z w hI
abbrev Lt := List Int × Value
def OwnQ (z w : World) (p : Lt) : Prop := ∃ A c, p.2 = .slice A p.1.length c ∧ RowAt w z.heap.size 5 1 A p.1.length c (p.1.map (Value.int .u8))
/-- The reference's host: what waits, what was released, how many were lost. -/
def IsRef (z w : World) (h : Nat) (ql : List Lt) (AL : Option Addr) (cl : Nat) (Q : List Pt) (AP : Option Addr) (cp : Nat) (lo : Int) : Prop :=
  w.heap[h]? = some (.cells #[.slice AL ql.length cl, .slice AP Q.length cp, .int .i64 lo] 49 (0, 0)) ∧ z.heap.size ≤ h ∧ RowAt w z.heap.size 29 1 AL ql.length cl (ql.map (·.2)) ∧ (∀ p ∈ ql, OwnQ z w p) ∧ IsRP z w AP cp Q
theorem row_empty (w : World) (base : Nat) (e : TypeId) (size : Nat) (h : base ≤ w.heap.size) : RowAt (w.alloc (.cells #[] e)) base e size (some ⟨w.heap.size, 0, none⟩) 0 0 [] :=
  ⟨by simp, Or.inr ⟨w.heap.size, 0, #[], rfl, h, blk_new _ _, Nat.le_refl _, Nat.zero_le _, by simp, by simp⟩⟩
theorem below_app3 {w w1 w2 : World} {e size n cap : Nat} {A : Option Addr} {xs : List Value} (hb : Below w.heap.size w w1) (ho : RowAt w1 w.heap.size e size A n cap xs) (h : w1.grownBy w2 (A.map (·.block))) : Below w.heap.size w w2 := hb.grown h hb.size (fun r er => (ho.lt r er).1)
theorem row_apart {w : World} {b1 b2 e1 e2 s1 s2 n1 n2 c1 c2 : Nat} {A1 A2 : Option Addr} {x1 x2 : List Value} (h1 : RowAt w b1 e1 s1 A1 n1 c1 x1) (h2 : RowAt w b2 e2 s2 A2 n2 c2 x2) (he : e1 ≠ e2) : ∀ j, A1.map (·.block) = some j → ¬ (A2.map (·.block) = some j) := by
  intro j hj
  rcases h1.2 with ⟨e, _⟩ | ⟨g, off, cur, e, _, hg, _⟩
  · subst e; cases hj
  · subst e; cases hj
    exact h2.off hg he
theorem OwnQ.upd {S : Nat → Prop} {z w w' : World} {p : Lt} (h : OwnQ z w p) (hU : Upd S w w') (hS : ∀ j cs fr, S j → w.heap[j]? ≠ some (.cells cs 5 fr)) : OwnQ z w' p := by
  obtain ⟨A, c, e, h1⟩ := h
  refine ⟨A, c, e, h1.upd hU (fun j hj hs => ?_)⟩
  rcases h1.2 with ⟨e1, _⟩ | ⟨g, off, cur, e1, _, e2, _⟩
  · subst e1; cases hj
  · subst e1; cases hj; exact hS _ _ _ hs e2
theorem IsRef.upd {S : Nat → Prop} {z w w' : World} {h : Nat} {ql : List Lt} {AL : Option Addr} {cl : Nat} {Q : List Pt} {AP : Option Addr} {cp : Nat} {lo : Int} (k : IsRef z w h ql AL cl Q AP cp lo) (hU : Upd S w w') (hh : ¬ S h) (h5 : ∀ j cs fr, S j → w.heap[j]? ≠ some (.cells cs 5 fr)) (h29 : ∀ j cs fr, S j → w.heap[j]? ≠ some (.cells cs 29 fr)) (hP : ∀ j, AP.map (·.block) = some j → ¬ S j) : IsRef z w' h ql AL cl Q AP cp lo := by
  refine ⟨hU.far k.1 hh, k.2.1, k.2.2.1.upd hU (fun j hj hs => ?_), fun p hp => (k.2.2.2.1 p hp).upd hU h5, k.2.2.2.2.upd hU hP⟩
  rcases k.2.2.1.2 with ⟨e1, _⟩ | ⟨g, off, cur, e1, _, e2, _⟩
  · rw [e1] at hj; cases hj
  · rw [e1] at hj; cases hj; exact h29 _ _ _ hs e2
theorem IsRef.below {z w w' : World} {h : Nat} {ql : List Lt} {AL : Option Addr} {cl : Nat} {Q : List Pt} {AP : Option Addr} {cp : Nat} {lo : Int} (k : IsRef z w h ql AL cl Q AP cp lo) (hb : Below w.heap.size w w') : IsRef z w' h ql AL cl Q AP cp lo :=
  k.upd (S := fun _ => False) (Upd.of_below hb) (fun h => h) (fun _ _ _ h => h.elim) (fun _ _ _ h => h.elim) (fun _ _ h => h)
theorem set_h {w : World} {h i : Nat} (u : Value) : Upd (fun j => j = h) w (w.setCell ⟨h, i, none⟩ u) := Upd.setCell (S := fun j => j = h) (p := ⟨h, i, none⟩) (Upd.refl _ _) (Or.inl rfl) u
theorem one_of_own {z w : World} {ql : List Lt} (h : ∀ p ∈ ql, OwnQ z w p) : ∀ u ∈ ql.map (·.2), u.oneCell' = true := by
  intro u hu
  obtain ⟨p, hp, rfl⟩ := List.mem_map.1 hu
  obtain ⟨A, c, e, _⟩ := h p hp
  rw [e]; rfl
set_option maxRecDepth 100000 in
theorem ref_long (h : Nat) (w : World) (S : Option Addr) (n cs : Nat) (hn : 16 < n) (hn2 : n ≤ 9223372036854775807) : Calls Try.prog 14 #[.pointer (some ⟨h, 0, none⟩), .slice S n cs] w fun en w' => en = .returned (.int .i64 2) ∧ w' = w := by
  go_enter Try.func14, Try.ntmps14
  go_wp2
  go_ret
  exact ⟨rfl, rfl⟩
set_option maxRecDepth 100000 in
theorem ref_full (h : Nat) (ql : List Lt) (AL : Option Addr) (cl : Nat) (Q : List Pt) (AP : Option Addr) (cp : Nat) (lo : Int) (z w : World) (k : IsRef z w h ql AL cl Q AP cp lo) (S : Option Addr) (n cs : Nat) (hn : n ≤ 16) (hq : ql.length = 16) : Calls Try.prog 14 #[.pointer (some ⟨h, 0, none⟩), .slice S n cs] w fun en w' => en = .returned (.int .i64 9) ∧ w' = w := by
  have c0 : w.cell? ⟨h, 0, none⟩ = some (.slice AL ql.length cl) := (blk_cell k.1 0).trans rfl
  rw [hq] at c0
  clear k hq
  go_enter Try.func14, Try.ntmps14
  go_wp2
  go_ret
  exact ⟨rfl, rfl⟩
def SubPost (z w w' : World) (h : Nat) (ql : List Lt) (Q : List Pt) (AP : Option Addr) (cp : Nat) (lo : Int) (b : List Int) : Prop := ∃ (A' : Option Addr) (c' : Nat) (v' : Value), IsRef z w' h (ql ++ [(b, v')]) A' c' Q AP cp lo ∧ Upd (fun j => j = h) w w'
set_option maxRecDepth 100000 in
set_option maxHeartbeats 2000000 in
theorem ref_submit (h : Nat) (ql : List Lt) (AL : Option Addr) (cl : Nat) (Q : List Pt) (AP : Option Addr) (cp : Nat) (lo : Int) (z w : World) (k : IsRef z w h ql AL cl Q AP cp lo) (S : Option Addr) (cs : Nat) (b : List Int) (hC : Kd.C (Kd.int .u8) w S b.length b) (hb : b.length ≤ 16) (hq : ql.length < 16) :
    Calls Try.prog 14 #[.pointer (some ⟨h, 0, none⟩), .slice S b.length cs] w fun en w' => en = .returned (.int .i64 0) ∧ SubPost z w w' h ql Q AP cp lo b := by
  obtain ⟨i5, hi5, hz5, hs5, hb5⟩ := info_parts info5
  obtain ⟨i29, hi29, hz29, hs29, hb29⟩ := info_parts info29
  have HR := Aside0.mk k
  have HONE := Aside0.mk (one_of_own k.2.2.2.1)
  have c0 : w.cell? ⟨h, 0, none⟩ = some (.slice AL ql.length cl) := (blk_cell k.1 0).trans rfl
  obtain ⟨bl, hbl⟩ : ∃ bl, b.length = bl := ⟨_, rfl⟩
  have HSRC : Aside0 (∀ U, Below w.heap.size w U → Src Try.prog 1 29 (.slice S bl cs) bl (b.map (Value.int .u8)) U) := ⟨fun U hU => by rw [← hbl]; exact src_bytes cs (C_below hC hU)⟩
  rw [hbl] at hb ⊢
  have HBL := Aside0.mk hbl
  clear k hC hbl
  go_enter Try.func14, Try.ntmps14
  go_wp2_with (first | (at_builtin; go_loud (refine wpList_append_at rfl (.tmp 15) (.tmp 19) 22 22 rfl w.heap.size 29 i29 _ 1 24 Try.underlying22 hi29 hz29 hs29 hb29 rfl (some ⟨w.heap.size, 0, none⟩) 0 0 [] rfl (row_empty w _ 29 1 (Nat.le_refl _)) (.slice AL ql.length cl) ql.length (ql.map (·.2)) rfl (src_row Try.underlying22 (HR.out.2.2.1.upd (S := fun _ => False) (Upd.of_below (below_alloc (Below.refl _ _) _)) (fun _ _ h => h)) HONE.out) (by unfold maxLen; omega) (by omega) (by simp) ?_; intro A1 ca1 w1 hown hgrow hat; rw [Nat.zero_add, List.nil_append] at hown; have b1 := below_app3 (below_alloc (Below.refl _ _) _) (row_empty w w.heap.size 29 1 (Nat.le_refl _)) hgrow; have O1 := Aside0.mk hown; have B1 := Aside0.mk b1; have hw1 := b1.size; clear hown hgrow hat b1)) | (at_builtin; go_loud (refine wpList_append_at rfl (.tmp 21) (.tmp 22) 29 29 rfl w.heap.size 5 i5 (.int .u8 0) 1 1 Try.underlying29 hi5 hz5 hs5 hb5 rfl (some ⟨w1.heap.size, 0, none⟩) 0 0 [] rfl (row_empty w1 w.heap.size 5 1 hw1) (.slice S bl cs) bl (b.map (Value.int .u8)) rfl (HSRC.out _ (below_alloc B1.out _)) (by unfold maxLen; omega) (by omega) (by simp; omega) ?_; intro A2 ca2 w2 hown hgrow hat; rw [Nat.zero_add, List.nil_append] at hown; have b2 := below_app3 (below_alloc B1.out _) (row_empty w1 w.heap.size 5 1 hw1) hgrow; have k1 := (O1.out.upd (S := fun _ => False) (Upd.of_below (below_alloc (Below.refl _ _) (.cells #[] 5))) (fun _ _ h => h)).upd (upd_of_grown hgrow (fun r e => e)) (fun j hj e => by cases e; exact absurd (O1.out.lt _ hj).2 (Nat.lt_irrefl _)); have O2 := Aside0.mk hown; have B2 := Aside0.mk b2; have K1 := Aside0.mk k1; have hw2 := b2.size; clear hown hgrow hat b2 k1)) | (at_builtin; go_loud (refine wpList_append_at rfl (.tmp 20) (.tmp 24) 22 22 rfl w.heap.size 29 i29 _ 1 24 Try.underlying22 hi29 hz29 hs29 hb29 rfl A1 ql.length ca1 (ql.map (·.2)) rfl (K1.out.upd (S := fun _ => False) (Upd.of_below (below_alloc (Below.refl _ _) _)) (fun _ _ h => h)) (.slice (some ⟨w2.heap.size, 0, none⟩) 1 1) 1 [.slice A2 bl ca2] rfl (Src.ofSlice _ Try.underlying22 ⟨w2.heap.size, 0, none⟩ 1 1 [.slice A2 bl ca2] rfl (cells_new w2 _ _) (by simp [Value.oneCell'])) (by unfold maxLen; omega) (by omega) (by simp; omega) ?_; intro A3 ca3 w3 hown hgrow hat; have k1 := K1.out.upd (S := fun _ => False) (Upd.of_below (below_alloc (Below.refl _ _) (.cells #[.slice A2 bl ca2] 29))) (fun _ _ h => h); have b3 := below_app3 (below_alloc B2.out _) k1 hgrow; have k2 := (O2.out.upd (S := fun _ => False) (Upd.of_below (below_alloc (Below.refl _ _) (.cells #[.slice A2 bl ca2] 29))) (fun _ _ h => h)); have k3 := k2.upd (upd_of_grown hgrow (fun r e => e)) (row_apart k2 k1 (by decide)); have O3 := Aside0.mk hown; have B3 := Aside0.mk b3; have K3 := Aside0.mk k3; have f3 : w3.frozen? ⟨h, 0, none⟩ = false := blk_frozen (blk_below HR.out.1 b3) 0; have c3 := (blk_cell (blk_below HR.out.1 b3) 0); clear hown hgrow hat b3 k1 k2 k3)))
  go_ret
  refine ⟨rfl, A3, ca3, .slice A2 bl ca2, ⟨?_, HR.out.2.1, ?_, ?_, ?_⟩, (Upd.of_below B3.out).trans (set_h _)⟩
  · rw [List.length_append]
    exact blk_put (blk_below HR.out.1 B3.out) 0 _ rfl
  · rw [List.length_append, List.map_append]
    exact (O3.out.mono (by have h1 := HR.out.2.1; have h2 := blk_lt HR.out.1; omega)).upd (set_h _) (fun j hj e => O3.out.off (blk_below HR.out.1 B3.out) (by decide) (by rw [hj, e]))
  · intro p hp
    have h5 : ∀ j cs fr, j = h → w3.heap[j]? ≠ some (.cells cs 5 fr) := by
      intro j cs fr e1 e2
      rw [e1, blk_below HR.out.1 B3.out] at e2
      cases e2
    rcases List.mem_append.1 hp with hp | hp
    · exact (((HR.out.below B3.out).2.2.2.1) p hp).upd (set_h _) h5
    · rw [List.mem_singleton.1 hp]
      refine OwnQ.upd (w := w3) ⟨A2, ca2, by show Value.slice A2 bl ca2 = _; rw [HBL.out], ?_⟩ (set_h _) h5
      have h1 := K3.out.mono (b2 := z.heap.size) (by have h1 := HR.out.2.1; have h2 := blk_lt HR.out.1; omega)
      rw [← HBL.out] at h1
      exact h1
  · exact (HR.out.below B3.out).2.2.2.2.upd (set_h _) (fun j hj e => (HR.out.below B3.out).2.2.2.2.1.off (blk_below HR.out.1 B3.out) (by decide) (by rw [hj, e]))
end Go.Proofs.Ytmofahlmcpeanaa.Hs7
