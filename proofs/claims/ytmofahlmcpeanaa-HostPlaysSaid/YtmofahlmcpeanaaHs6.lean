/- What a host does with what is released. -/
import Derived.Test.YtmofahlmcpeanaaProg
import Derived.Below
import Derived.Deep.Draws
import Derived.Deep.AppendLies
import Derived.Maps.AppendAt
import Derived.OwnWalk
import Derived.Laws.BytesArg
import Derived.Laws.MakeOwn
import Derived.Laws.OwnMore
import Derived.Deep.OwnRows
import Derived.Tactics
import Derived.Lib.ConvBytes
import Derived.Laws.Slices
import Derived.WalkKit
import Derived.KernelRfl
import Derived.RowKit3
import Derived.Deep.LoopGhost
import Derived.Deep.QuietTactic
import Derived.BigQuiet
import Derived.WideLaws
import Derived.Deep.DeepCutAuto
import Derived.Deep.CutBlock
import Derived.Deep.RegionHeld3
import Derived.Laws.Rows
import Derived.Lib.AppendStr
import Derived.ArgAppend
import Derived.Laws.IdiomCopy
import Derived.OrdersHeld
import Derived.Laws.BitsLemmas
import Derived.RowKit
import Derived.RegionTactic
import Derived.ChangeAlike
import Derived.Outline
import Derived.LoopTactic
import Derived.WalkSpells
import Derived.WalkLawsBesides
import Derived.Lib.Hide
import Derived.StillTailTactics
import Derived.Deep.RegionWith
import Derived.Deep.RegionLaw
import Derived.Deep.DeepFit
import Derived.Deep.DeepMust
import Derived.Test.YtmofahlmcpeanaaWWords
import Derived.Test.YtmofahlmcpeanaaWLast
import Derived.Test.YtmofahlmcpeanaaWTab
import Derived.Test.YtmofahlmcpeanaaWFour
import Derived.Test.YtmofahlmcpeanaaWQPut
import Derived.Test.YtmofahlmcpeanaaWApart
import Derived.Test.YtmofahlmcpeanaaWArr
import Derived.Test.YtmofahlmcpeanaaWZeros
import Derived.Test.YtmofahlmcpeanaaWFoot
import Derived.Test.YtmofahlmcpeanaaWKept
import Derived.Test.YtmofahlmcpeanaaWShare
import Derived.Test.YtmofahlmcpeanaaWN
import Derived.Test.YtmofahlmcpeanaaWFootNe
import Derived.Test.YtmofahlmcpeanaaWAt
import Derived.Test.YtmofahlmcpeanaaWEqStruct
import Derived.Test.YtmofahlmcpeanaaWRepsOne
import Derived.Test.YtmofahlmcpeanaaWInv
import Derived.Test.YtmofahlmcpeanaaWInvWords
import Derived.Test.YtmofahlmcpeanaaWGuard
import Derived.Test.YtmofahlmcpeanaaWNEv
import Derived.Test.YtmofahlmcpeanaaWMore
import Derived.Test.YtmofahlmcpeanaaHs5
namespace Go.Proofs.Ytmofahlmcpeanaa.Hs6
open Go.RowKit Go.Proofs.YtmofahlmcpeanaaW.PrintWords Go.Proofs.YtmofahlmcpeanaaW.PrintLast Go.Proofs.YtmofahlmcpeanaaW.PrintMore 
attribute [local go_sem] max2_int min2_int max_two min_two max_three min_three max_four min_four
set_option linter.unusedVariables false
set_option linter.unusedSimpArgs false
open Go.Joins Go.Proofs.Ytmofahlmcpeanaa.Hs1 Go.Proofs.Ytmofahlmcpeanaa.Hs2 Go.Proofs.Ytmofahlmcpeanaa.Hs3 Go.Proofs.Ytmofahlmcpeanaa.Hs4 Go.Proofs.Ytmofahlmcpeanaa.Hs5

set_option maxRecDepth 100000 in
theorem release_long (g a : Nat) (q : List (List Int)) (iv : Value) (lo : Int) (z w : World) (hR : RingIs z w g a q iv lo) (fr rd : Int) (S : Option Addr) (n cs : Nat) (hn : 16 < n) (hn2 : n ≤ 9223372036854775807) : Calls Try.prog 11 #[.pointer (some ⟨g, 0, none⟩), .agg #[.int .i64 fr, .int .i64 rd, .slice S n cs]] w fun en w' => en = .returned (.int .i64 2) ∧ Below w.heap.size w w' := by
  have HR := Aside0.mk (ring_upd hR (Upd.of_below (S := fun _ => False) (below_alloc (Below.refl _ _) (.cells #[.int .i64 fr, .int .i64 rd, .slice S n cs] 43))) (fun h => h) (fun j cs fr h => h.elim))
  clear hR
  go_enter Try.func11, Try.ntmps11
  go_wp2_with (first | (go_at_call 19; go_loud (obtain ⟨vs, hI, hI2⟩ := HR.out; refine (none_ok g vs a q.length _ lo z _ hI).mono ?_; rintro en w1 ⟨rfl, e1⟩; rw [e1]; clear e1)))
  go_ret
  first | exact ⟨rfl, below_alloc (Below.refl _ _) _⟩ | (refine ⟨rfl, ?_⟩; exact below_set (below_alloc (Below.refl _ _) _) (Nat.le_refl _))
/-- What a release leaves. -/
def heldQ (Q : List Pt) : List Pt := if 64 < Q.length then Q.drop 1 else Q
def RelPost (z w w' : World) (g a : Nat) (q : List (List Int)) (Q : List Pt) (A : Option Addr) (lo : Int) (p : Int × Int × List Int) : Prop := ∃ (A' : Option Addr) (cap' : Nat) (v' : Value), RingIs z w' g a q (.slice A' (heldQ (Q ++ [(p, v')])).length cap') (if 64 < Q.length + 1 then lo + 1 else lo) ∧ IsIn z w' A' cap' (heldQ (Q ++ [(p, v')])) ∧ Upd (fun j => j = g ∨ A.map (·.block) = some j) w w' ∧ (A'.map (·.block) = A.map (·.block) ∨ ∃ j, A'.map (·.block) = some j ∧ w.heap.size ≤ j)
set_option maxRecDepth 100000 in
set_option maxHeartbeats 2000000 in
theorem release_ok (g a : Nat) (q : List (List Int)) (Q : List Pt) (A : Option Addr) (cap : Nat) (lo : Int) (z w : World) (hR : RingIs z w g a q (.slice A Q.length cap) lo) (hI : IsIn z w A cap Q) (hQ : Q.length ≤ 64) (hlo : 0 ≤ lo ∧ lo ≤ 1000000) (fr rd : Int) (S : Option Addr) (cs : Nat) (b : List Int) (hb : b.length ≤ 16) (hC : Kd.C (Kd.int .u8) w S b.length b) :
    Calls Try.prog 11 #[.pointer (some ⟨g, 0, none⟩), .agg #[.int .i64 fr, .int .i64 rd, .slice S b.length cs]] w fun en w' => en = .returned (.int .i64 0) ∧ RelPost z w w' g a q Q A lo (fr, rd, b) := by
  obtain ⟨i5, hi5, hz5, hs5, hb5⟩ := info_parts info5
  obtain ⟨i43, hi43, hz43, hs43, hb43⟩ := info_parts info43
  have HZ43 := Aside0.mk (And.intro hi43 (And.intro hz43 (And.intro hs43 hb43)))
  have HR0 := Aside0.mk hR
  have HR := Aside0.mk (ring_upd hR (Upd.of_below (S := fun _ => False) (below_alloc (Below.refl _ _) (.cells #[.int .i64 fr, .int .i64 rd, .slice S b.length cs] 43))) (fun h => h) (fun j cs fr h => h.elim))
  have HI := Aside0.mk hI
  have HC := Aside0.mk hC
  have HQ := Aside0.mk hQ
  have HLO := Aside0.mk hlo
  clear hR hI hC hi43 hz43 hs43 hb43 hlo hQ
  go_enter Try.func11, Try.ntmps11
  go_upto_region 6 with (first | (go_at_call 19; go_loud (obtain ⟨vs, hI, hI2⟩ := HR.out; refine (none_ok g vs a q.length _ lo z _ hI).mono ?_; rintro en w1 ⟨rfl, e1⟩; rw [e1]; clear e1)) | (at_builtin; go_loud (refine wpList_append_at rfl (.const (.slice none 0 0)) (.tmp 14) 29 29 rfl w.heap.size 5 i5 (.int .u8 0) 1 1 Try.underlying29 hi5 hz5 hs5 hb5 rfl none 0 0 [] rfl (RowAt.nil _ _ _ _) (.slice S b.length cs) b.length (b.map (Value.int .u8)) rfl (src_bytes cs (C_below HC.out (below_alloc (Below.refl _ _) _))) (by unfold maxLen; omega) (by omega) (by simp) ?_; intro Ab cb w5 hown hgrow hat; rw [Nat.zero_add, List.nil_append] at hown; have O5 := Aside0.mk hown; have G5 := Aside0.mk hgrow; have b5 : Below w.heap.size w w5 := ⟨hgrow.os, hgrow.tape, hgrow.output, Nat.le_trans (by simp) hgrow.size, fun i hi => (hgrow.block i (by simp; omega) (by simp)).trans (Below.heap_alloc w _ i hi)⟩; have B5 := Aside0.mk b5; have x5 : w5.heap[w.heap.size]? = some (.cells #[.int .i64 fr, .int .i64 rd, .slice S b.length cs] 43 (0, 0)) := (hgrow.block _ (by simp) (by simp)).trans (blk_new _ _); have X5 := Aside0.mk x5; have y5 : w5.frozen? ⟨w.heap.size, 2, none⟩ = false := blk_frozen x5 2; have y6 : w5.cell? ⟨w.heap.size, 2, none⟩ = some (.slice S b.length cs) := blk_cell x5 2; clear hown hgrow hat b5 x5)))
  have hzw : z.heap.size ≤ w.heap.size := by obtain ⟨cs, h1, h2⟩ := ring_blk HR0.out; have := blk_lt h1; omega
  have B6 : ∀ v, Below w.heap.size w (w5.setCell ⟨w.heap.size, 2, none⟩ v) := fun v => below_set B5.out (Nat.le_refl _)
  have hAB : ∀ j, A.map (·.block) = some j → j < w.heap.size := fun j hj => (HI.out.1.lt j hj).2
  refine wp_gen (fun W => W.heap[w.heap.size]? = some (.cells #[.int .i64 fr, .int .i64 rd, .slice Ab b.length cb] 43 (0, 0)) ∧ RingIs z W g a q (.slice A Q.length cap) lo ∧ IsIn z W A cap Q ∧ RowAt W z.heap.size 5 1 Ab b.length cb (b.map (Value.int .u8)) ∧ Below w.heap.size w W) ⟨blk_put X5.out 2 _ rfl, ring_upd (S := fun _ => False) HR0.out (Upd.of_below (B6 _)) (fun h => h) (fun j cs fr h => h.elim), HI.out.upd (S := fun _ => False) (Upd.of_below (B6 _)) (fun j cs fr h => h.elim) (fun _ _ h => h), (RowAt.upd (S := fun j => j = w.heap.size) O5.out (Upd.setCell (S := fun j => j = w.heap.size) (Upd.refl _ _) (p := ⟨w.heap.size, 2, none⟩) (Or.inl rfl) _) (fun j hj e => O5.out.off X5.out (by decide) (by rw [hj, e]))).mono hzw, B6 _⟩ ?_
  clear O5 G5 B5 X5 y5 y6 HR HR0 HC hi5 hz5 hs5 hb5 B6 hI hI2 vs
  obtain ⟨bx, hbx⟩ : ∃ bx, w.heap.size = bx := ⟨_, rfl⟩
  obtain ⟨bl, hbl⟩ : ∃ bl, b.length = bl := ⟨_, rfl⟩
  obtain ⟨n, hn⟩ : ∃ n, Q.length = n := ⟨_, rfl⟩
  rw [hbx, hbl, hn]
  rw [hbx] at hAB hzw
  rintro W ⟨q1, q2, q3, q4, q5⟩
  have XW := Aside0.mk q1
  have RW := Aside0.mk q2
  have IW := Aside0.mk q3
  have OW := Aside0.mk q4
  have BW := Aside0.mk q5
  have HBX := Aside0.mk hbx
  have HBL := Aside0.mk hbl
  have HN := Aside0.mk hn
  have HAB := Aside0.mk hAB
  have HZW := Aside0.mk hzw
  have hn64 : n ≤ 64 := by rw [← hn]; exact HQ.out
  obtain ⟨e18, _, f18, _⟩ := ring_c18 q2
  have S0 : W.heap.size ≤ W.drew.heap.size ∧ W.drew.cell? ⟨g, 18, none⟩ = some (.slice A n cap) ∧ W.drew.frozen? ⟨g, 18, none⟩ = false ∧ W.drew.cell? ⟨bx, 0, none⟩ = some (.int .i64 fr) ∧ W.drew.cell? ⟨bx, 1, none⟩ = some (.int .i64 rd) ∧ W.drew.cell? ⟨bx, 2, none⟩ = some (.slice Ab bl cb) := ⟨Nat.le_refl _, e18, f18, (blk_cell q1 0).trans rfl, (blk_cell q1 1).trans rfl, (blk_cell q1 2).trans rfl⟩
  clear q1 q2 q3 q4 q5 hbx hbl hn hAB hzw e18 f18
  refine region_N (fun U => W.heap.size ≤ U.heap.size ∧ U.cell? ⟨g, 18, none⟩ = some (.slice A n cap) ∧ U.frozen? ⟨g, 18, none⟩ = false ∧ U.cell? ⟨bx, 0, none⟩ = some (.int .i64 fr) ∧ U.cell? ⟨bx, 1, none⟩ = some (.int .i64 rd) ∧ U.cell? ⟨bx, 2, none⟩ = some (.slice Ab bl cb)) 8 (by kernel_rfl) S0 (fun hS => ?_)
  clear S0
  refine takeN (i := 0) (v := ?_) rfl (by kernel_rfl) (by kernel_rfl) (by kernel_rfl) (by kernel_rfl) (fun _ _ _ h => h) (Or.inl ⟨by rfl, ?_⟩) hS ?_
  rotate_left
  · (intro U hSU; (try dsimp only at hSU); go_simp; all_goals (first | done | (with_reducible rfl)))
  (try simp only [Act.put, List.setIfInBounds_toArray, List.set_cons_zero, List.set_cons_succ])
  refine takeN (i := 1) (v := ?_) rfl (by kernel_rfl) (by kernel_rfl) (by kernel_rfl) (by kernel_rfl) (fun _ _ _ h => h) (Or.inl ⟨by rfl, ?_⟩) hS ?_
  rotate_left
  · (intro U hSU; (try dsimp only at hSU); go_simp; all_goals (first | done | (with_reducible rfl)))
  (try simp only [Act.put, List.setIfInBounds_toArray, List.set_cons_zero, List.set_cons_succ])
  refine takeN (i := 2) (v := ?_) rfl (by kernel_rfl) (by kernel_rfl) (by kernel_rfl) (by kernel_rfl) (fun _ _ _ h => h) (Or.inl ⟨by rfl, ?_⟩) hS ?_
  rotate_left
  · (intro U hSU; (try dsimp only at hSU); go_simp; all_goals (first | done | (with_reducible rfl)))
  (try simp only [Act.put, List.setIfInBounds_toArray, List.set_cons_zero, List.set_cons_succ])
  refine takeN (i := 3) (v := ?_) rfl (by kernel_rfl) (by kernel_rfl) (by kernel_rfl) (by kernel_rfl) (fun _ _ _ h => h) (Or.inl ⟨by rfl, ?_⟩) hS ?_
  rotate_left
  · (intro U hSU; (try dsimp only at hSU); go_simp; all_goals (first | done | (with_reducible rfl)))
  (try simp only [Act.put, List.setIfInBounds_toArray, List.set_cons_zero, List.set_cons_succ])
  refine takeN (i := 4) (v := ?_) rfl (by kernel_rfl) (by kernel_rfl) (by kernel_rfl) (by kernel_rfl) (fun _ _ _ h => h) (Or.inl ⟨by rfl, ?_⟩) hS ?_
  rotate_left
  · (intro U hSU; (try dsimp only at hSU); go_simp; all_goals (first | done | (with_reducible rfl)))
  (try simp only [Act.put, List.setIfInBounds_toArray, List.set_cons_zero, List.set_cons_succ])
  refine takeN (i := 5) (v := ?_) rfl (by kernel_rfl) (by kernel_rfl) (by kernel_rfl) (by kernel_rfl) (fun _ _ _ h => h) (Or.inl ⟨by rfl, ?_⟩) hS ?_
  rotate_left
  · (intro U hSU; (try dsimp only at hSU); go_simp; all_goals (first | done | (with_reducible rfl)))
  (try simp only [Act.put, List.setIfInBounds_toArray, List.set_cons_zero, List.set_cons_succ])
  refine oneN (i := 6) (by kernel_rfl) rfl (fun K hK => ?_)
  go_simp
  have hb6 : Below W.heap.size W (W.drew.alloc (.cells #[.int .i64 fr, .int .i64 rd, .slice Ab bl cb] 43)) := below_alloc (below_drew1 (Below.refl _ _)) _
  have hS6 : W.heap.size ≤ (W.drew.alloc (.cells #[.int .i64 fr, .int .i64 rd, .slice Ab bl cb] 43)).heap.size ∧ (W.drew.alloc (.cells #[.int .i64 fr, .int .i64 rd, .slice Ab bl cb] 43)).cell? ⟨g, 18, none⟩ = some (.slice A n cap) ∧ (W.drew.alloc (.cells #[.int .i64 fr, .int .i64 rd, .slice Ab bl cb] 43)).frozen? ⟨g, 18, none⟩ = false ∧ (W.drew.alloc (.cells #[.int .i64 fr, .int .i64 rd, .slice Ab bl cb] 43)).cell? ⟨bx, 0, none⟩ = some (.int .i64 fr) ∧ (W.drew.alloc (.cells #[.int .i64 fr, .int .i64 rd, .slice Ab bl cb] 43)).cell? ⟨bx, 1, none⟩ = some (.int .i64 rd) ∧ (W.drew.alloc (.cells #[.int .i64 fr, .int .i64 rd, .slice Ab bl cb] 43)).cell? ⟨bx, 2, none⟩ = some (.slice Ab bl cb) := ⟨by simp, cell_bel hb6 hS.2.1, (blk_frozen (ring_blk (ring_upd (S := fun _ => False) RW.out (Upd.of_below hb6) (fun h => h) (fun j cs fr h => h.elim))).choose_spec.1 18), cell_bel hb6 hS.2.2.2.1, cell_bel hb6 hS.2.2.2.2.1, cell_bel hb6 hS.2.2.2.2.2⟩
  refine hK _ _ (fun _ => hS6) ?_
  clear hK K
  (try simp only [Act.put, List.setIfInBounds_toArray, List.set_cons_zero, List.set_cons_succ])
  refine oneN (i := 7) (by kernel_rfl) rfl (fun K hK => ?_)
  obtain ⟨hi43, hz43, hs43, hb43⟩ := HZ43.out
  have hI6 : IsIn z (W.drew.alloc (.cells #[.int .i64 fr, .int .i64 rd, .slice Ab bl cb] 43)) A cap Q := IW.out.upd (S := fun _ => False) (Upd.of_below hb6) (fun j cs fr h => h.elim) (fun _ _ h => h)
  have hr6 := hI6.1
  rw [HN.out] at hr6
  refine step_append_at rfl (.tmp 21) (.tmp 23) 38 38 rfl z.heap.size 43 i43 _ 3 40 Try.underlying38 hi43 hz43 hs43 hb43 rfl A n cap (pf Q) rfl hr6 (.slice (some ⟨W.heap.size, 0, none⟩) 1 1) 1 [.int .i64 fr, .int .i64 rd, .slice Ab bl cb] rfl (Src.ofSlice _ Try.underlying38 ⟨W.heap.size, 0, none⟩ 1 1 [.int .i64 fr, .int .i64 rd, .slice Ab bl cb] rfl (cells_new W.drew _ _) (by simp [Value.oneCell'])) (by unfold maxLen; omega) (by omega) (by have h1 := HZW.out; have h2 := BW.out.size; have h3 := HBX.out; simp; omega) ?_
  intro A7 cap7 w7 hown hgrow hat
  have hU7 : Upd (fun j => A.map (·.block) = some j) W w7 := (Upd.of_below hb6).trans (upd_of_grown hgrow (fun r e => e))
  have hgA : A.map (·.block) ≠ some g := by obtain ⟨cs, h1, _⟩ := ring_blk RW.out; exact IW.out.1.off h1 (by decide)
  have hbA : A.map (·.block) ≠ some bx := fun e => by have := HAB.out bx e; omega
  have hA5 : ∀ j cs fr, A.map (·.block) = some j → W.heap[j]? ≠ some (.cells cs 5 fr) := fun j cs fr hj e => by exact IW.out.1.off e (by decide) hj
  have hR7 := ring_upd RW.out hU7 hgA hA5
  have hX7 := hU7.far XW.out hbA
  obtain ⟨e18, _, f18, _⟩ := ring_c18 hR7
  have hS7 : W.heap.size ≤ w7.heap.size ∧ w7.cell? ⟨g, 18, none⟩ = some (.slice A n cap) ∧ w7.frozen? ⟨g, 18, none⟩ = false ∧ w7.cell? ⟨bx, 0, none⟩ = some (.int .i64 fr) ∧ w7.cell? ⟨bx, 1, none⟩ = some (.int .i64 rd) ∧ w7.cell? ⟨bx, 2, none⟩ = some (.slice Ab bl cb) := ⟨hU7.size, e18, f18, (blk_cell hX7 0).trans rfl, (blk_cell hX7 1).trans rfl, (blk_cell hX7 2).trans rfl⟩
  refine hK _ _ (fun _ => hS7) ?_
  have O7 := Aside0.mk hown
  have U7 := Aside0.mk hU7
  have R7 := Aside0.mk hR7
  have HAT : Aside0 (A7.map (·.block) = A.map (·.block) ∨ ∃ j, A7.map (·.block) = some j ∧ w.heap.size ≤ j) := ⟨by rcases hat with h | h; exact Or.inl h; exact Or.inr ⟨_, h, by have := BW.out.size; simp; omega⟩⟩
  have HA5 := Aside0.mk hA5
  have HGA := Aside0.mk hgA
  clear hK K hS hb6 hS6 hI6 hr6 hown hgrow hat hU7 hR7 hX7 hA5 hgA hbA hi43 hz43 hs43 hb43
  clear e18 f18
  obtain ⟨t1, t2, t3, t4, t5, t6⟩ := hS7
  (try simp only [Act.put, List.setIfInBounds_toArray, List.set_cons_zero, List.set_cons_succ])
  refine tailN2 8 (by kernel_rfl) (Nat.le_refl _) (by decide) (by kernel_rfl) ?_
  simp only [List.drop_succ_cons, List.drop_zero]
  go_upto_region 7 with (fail)
  obtain ⟨t, ht⟩ : ∃ t : Pt, ((fr, rd, b), Value.slice Ab bl cb) = t := ⟨_, rfl⟩
  have hpf : pf Q ++ [.int .i64 fr, .int .i64 rd, .slice Ab bl cb] = pf (Q ++ [t]) := by rw [pf_append, ← ht]; rfl
  have hUs : ∀ u, Upd (fun j => j = g) w7 (w7.setCell ⟨g, 18, none⟩ u) := fun u => Upd.setCell (S := fun j => j = g) (Upd.refl _ _) (p := ⟨g, 18, none⟩) (Or.inl rfl) u
  have hg5 : ∀ j cs fr, j = g → w7.heap[j]? ≠ some (.cells cs 5 fr) := by
    intro j cs fr e1 e2
    obtain ⟨cs2, h1, _⟩ := ring_blk R7.out
    subst e1
    rw [h1] at e2
    cases e2
  have hgA7 : A7.map (·.block) ≠ some g := by obtain ⟨cs, h1, _⟩ := ring_blk R7.out; exact O7.out.off h1 (by decide)
  have ho7 := O7.out
  rw [hpf] at ho7
  have hOB : ∀ t' ∈ Q ++ [t], ∀ u, OwnB z (w7.setCell ⟨g, 18, none⟩ u) t' := by
    intro t' ht' u
    have hw : OwnB z W t' := by
      rcases List.mem_append.1 ht' with h | h
      · exact IW.out.2 t' h
      · rw [List.mem_singleton.1 h, ← ht]
        exact ⟨Ab, cb, by show Value.slice Ab bl cb = _; rw [HBL.out], by have h1 := OW.out; rw [← HBL.out] at h1; exact h1⟩
    exact (hw.upd U7.out HA5.out).upd (hUs u) hg5
  refine wp_gen (fun V => RingIs z V g a q (.slice A7 (n + 1) cap7) lo ∧ RowAt V z.heap.size 43 3 A7 (n + 1) cap7 (pf (Q ++ [t])) ∧ (∀ t' ∈ Q ++ [t], OwnB z V t') ∧ Upd (fun j => j = g ∨ A.map (·.block) = some j) w V) ⟨ring_set18 R7.out _, ho7.upd (hUs _) (fun j hj e => hgA7 (by rw [hj, e])), fun t' ht' => hOB t' ht' _, ((Upd.of_below (by rw [← HBX.out] at BW; exact BW.out)).trans (U7.out.mono (fun k _ h => Or.inr h))).trans ((hUs _).mono (fun k _ h => Or.inl h))⟩ ?_
  clear t1 t2 t3 t4 t5 t6 O7 U7 R7 HA5 HGA hpf hUs hg5 hgA7 ho7 hOB XW RW IW OW BW HBX HAB HZW HZ43
  rintro V ⟨q1, q2, q3, q4⟩
  have RV := Aside0.mk q1
  have OV := Aside0.mk q2
  have BV := Aside0.mk q3
  have UV := Aside0.mk q4
  obtain ⟨e18, e19, f18, f19⟩ := ring_c18 q1
  clear q1 q2 q3 q4
  by_cases hh : 64 < n + 1
  · obtain rfl : n = 64 := by omega
    have hln := OV.out.len
    obtain ⟨A8, hcut, hr8, hb8⟩ : ∃ A8, sliced A7 1 65 cap7 3 = .slice A8 64 (cap7 - 1) ∧ RowAt V z.heap.size 43 3 A8 64 (cap7 - 1) (pf ((Q ++ [t]).drop 1)) ∧ A8.map (·.block) = A7.map (·.block) := by
      cases hqq : Q ++ [t] with
      | nil => simp at hqq
      | cons t0 Q0 =>
        have h1 := OV.out
        rw [hqq, pf_cons] at h1
        exact h1.tail rfl (by omega)
    have hsl : ∀ U, (Instr.slice 38 (.slice A7 65 cap7) (some (.int .i64 1)) none none).run Try.prog U = .ok (.slice A8 64 (cap7 - 1)) U := by
      intro U
      rw [run_slice_l (P := Try.prog) (w := U) (t := 38) (a := A7) (len := 65) (cap := cap7) (ht := Try.underlying38) (kl := .i64) (l := 1) (h0 := by omega) (h1 := by omega)]
      rw [← hcut]
      rfl
    have H8 := Aside0.mk hr8
    have HB8 := Aside0.mk hb8
    clear hcut hr8 hb8
    have hlo := HLO.out
    go_upto_region 9 with (fail)
    have hU8 : ∀ u, Upd (fun j => j = g) V (V.setCell ⟨g, 18, none⟩ u) := fun u => Upd.setCell (S := fun j => j = g) (Upd.refl _ _) (p := ⟨g, 18, none⟩) (Or.inl rfl) u
    have hgV : ∃ cs, V.heap[g]? = some (.cells cs 40 (0, 0)) := by obtain ⟨cs, h, _⟩ := ring_blk RV.out; exact ⟨cs, h⟩
    have hg5 : ∀ j cs fr, j = g → V.heap[j]? ≠ some (.cells cs 5 fr) := by
      intro j cs fr e1 e2
      obtain ⟨cs2, h1⟩ := hgV
      subst e1
      rw [h1] at e2
      cases e2
    refine wp_gen (fun V2 => RingIs z V2 g a q (.slice A8 64 (cap7 - 1)) lo ∧ RowAt V2 z.heap.size 43 3 A8 64 (cap7 - 1) (pf ((Q ++ [t]).drop 1)) ∧ (∀ t' ∈ Q ++ [t], OwnB z V2 t') ∧ Upd (fun j => j = g ∨ A.map (·.block) = some j) w V2) ⟨ring_set18 RV.out _, H8.out.upd (hU8 _) (fun j hj e => by obtain ⟨cs, h1⟩ := hgV; exact H8.out.off h1 (by decide) (by rw [hj, e])), fun t' ht' => (BV.out t' ht').upd (hU8 _) hg5, UV.out.trans ((hU8 _).mono (fun k _ h => Or.inl h))⟩ ?_
    clear hU8 hgV hg5 RV OV BV UV H8 e18 e19 f18 f19 hsl
    rintro V2 ⟨q1, q2, q3, q4⟩
    have RV := Aside0.mk q1
    have OV := Aside0.mk q2
    have BV := Aside0.mk q3
    have UV := Aside0.mk q4
    obtain ⟨e18, e19, f18, f19⟩ := ring_c18 q1
    clear q1 q2 q3 q4
    go_wp2
    go_ret
    have hU8 : ∀ u, Upd (fun j => j = g) V2 (V2.setCell ⟨g, 19, none⟩ u) := fun u => Upd.setCell (S := fun j => j = g) (Upd.refl _ _) (p := ⟨g, 19, none⟩) (Or.inl rfl) u
    have hgV : ∃ cs, V2.heap[g]? = some (.cells cs 40 (0, 0)) := by obtain ⟨cs, h, _⟩ := ring_blk RV.out; exact ⟨cs, h⟩
    have hg5 : ∀ j cs fr, j = g → V2.heap[j]? ≠ some (.cells cs 5 fr) := by
      intro j cs fr e1 e2
      obtain ⟨cs2, h1⟩ := hgV
      subst e1
      rw [h1] at e2
      cases e2
    have hlq : (Q ++ [t]).length = 65 := by rw [List.length_append, HN.out]; rfl
    have hh2 : heldQ (Q ++ [t]) = (Q ++ [t]).drop 1 := by unfold heldQ; rw [if_pos (by rw [hlq]; decide)]
    have hl2 : ((Q ++ [t]).drop 1).length = 64 := by rw [List.length_drop, hlq]
    have hT : ∃ (A' : Option Addr) (cap' : Nat) (v' : Value), RingIs z (V2.setCell ⟨g, 19, none⟩ (.int .i64 (lo + 1))) g a q (.slice A' (heldQ (Q ++ [((fr, rd, b), v')])).length cap') (if 64 < 64 + 1 then lo + 1 else lo) ∧ IsIn z (V2.setCell ⟨g, 19, none⟩ (.int .i64 (lo + 1))) A' cap' (heldQ (Q ++ [((fr, rd, b), v')])) ∧ Upd (fun j => j = g ∨ A.map (·.block) = some j) w (V2.setCell ⟨g, 19, none⟩ (.int .i64 (lo + 1))) ∧ (A'.map (·.block) = A.map (·.block) ∨ ∃ j, A'.map (·.block) = some j ∧ w.heap.size ≤ j) := by
      refine ⟨A8, cap7 - 1, .slice Ab bl cb, ?_, ⟨?_, ?_⟩, ?_, ?_⟩
      · rw [ht, hh2, hl2, if_pos (by decide)]
        exact ring_set19 RV.out _
      · rw [ht, hh2, hl2]
        exact OV.out.upd (hU8 _) (fun j hj e => by obtain ⟨cs, h1⟩ := hgV; exact OV.out.off h1 (by decide) (by rw [hj, e]))
      · rw [ht, hh2]
        exact fun t' ht' => (BV.out t' (List.mem_of_mem_drop ht')).upd (hU8 _) hg5
      · exact UV.out.trans ((hU8 _).mono (fun k _ h => Or.inl h))
      · rw [HB8.out]; exact HAT.out
    obtain ⟨x1, x2, x3, y1, y2, y3, y4⟩ := hT
    exact ⟨rfl, x1, x2, x3, by rw [HN.out]; exact y1, y2, y3, y4⟩
  · have hh2 : ¬ ((64 : Int) < (n : Int) + 1) := by omega
    go_wp2
    go_ret
    have hlq : (Q ++ [t]).length = n + 1 := by rw [List.length_append, HN.out]; rfl
    have hh3 : heldQ (Q ++ [t]) = Q ++ [t] := by unfold heldQ; rw [if_neg (by rw [hlq]; exact hh)]
    have hT : ∃ (A' : Option Addr) (cap' : Nat) (v' : Value), RingIs z V g a q (.slice A' (heldQ (Q ++ [((fr, rd, b), v')])).length cap') (if 64 < n + 1 then lo + 1 else lo) ∧ IsIn z V A' cap' (heldQ (Q ++ [((fr, rd, b), v')])) ∧ Upd (fun j => j = g ∨ A.map (·.block) = some j) w V ∧ (A'.map (·.block) = A.map (·.block) ∨ ∃ j, A'.map (·.block) = some j ∧ w.heap.size ≤ j) := by
      refine ⟨A7, cap7, .slice Ab bl cb, ?_, ⟨?_, ?_⟩, UV.out, HAT.out⟩
      · rw [ht, hh3, hlq, if_neg hh]; exact RV.out
      · rw [ht, hh3, hlq]; exact OV.out
      · rw [ht, hh3]; exact BV.out
    obtain ⟨x1, x2, x3, y1, y2, y3, y4⟩ := hT
    exact ⟨rfl, x1, x2, x3, by rw [HN.out]; exact y1, y2, y3, y4⟩
end Go.Proofs.Ytmofahlmcpeanaa.Hs6
