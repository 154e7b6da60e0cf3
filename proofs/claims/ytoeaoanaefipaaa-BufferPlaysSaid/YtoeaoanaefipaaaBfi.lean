/- Without one; putting by the reference. -/
import Derived.Test.YtoeaoanaefipaaaProg
import Derived.Below
import Derived.Deep.Draws
import Derived.Deep.AppendLies
import Derived.Maps.AppendAt
import Derived.OwnWalk
import Derived.Laws.BytesArg
import Derived.Laws.MakeOwn
import Derived.Laws.OwnMore
import Derived.Deep.OwnRows
import Derived.Tactics
import Derived.Lib.ConvBytes
import Derived.Laws.Slices
import Derived.WalkKit
import Derived.KernelRfl
import Derived.RowKit3
import Derived.Deep.LoopGhost
import Derived.Deep.QuietTactic
import Derived.BigQuiet
import Derived.WideLaws
import Derived.Deep.DeepCutAuto
import Derived.Deep.CutBlock
import Derived.Deep.RegionHeld3
import Derived.Laws.Rows
import Derived.Lib.AppendStr
import Derived.ArgAppend
import Derived.Laws.IdiomCopy
import Derived.OrdersHeld
import Derived.Laws.BitsLemmas
import Derived.RowKit
import Derived.RegionTactic
import Derived.ChangeAlike
import Derived.Outline
import Derived.LoopTactic
import Derived.WalkSpells
import Derived.WalkLawsBesides
import Derived.Lib.Hide
import Derived.StillTailTactics
import Derived.Deep.RegionWith
import Derived.Deep.RegionLaw
import Derived.Deep.DeepFit
import Derived.Deep.DeepMust
import Derived.Test.YtoeaoanaefipaaaWWords
import Derived.Test.YtoeaoanaefipaaaWLast
import Derived.Test.YtoeaoanaefipaaaWTab
import Derived.Test.YtoeaoanaefipaaaWFour
import Derived.Test.YtoeaoanaefipaaaWQPut
import Derived.Test.YtoeaoanaefipaaaWApart
import Derived.Test.YtoeaoanaefipaaaWArr
import Derived.Test.YtoeaoanaefipaaaWZeros
import Derived.Test.YtoeaoanaefipaaaWFoot
import Derived.Test.YtoeaoanaefipaaaWKept
import Derived.Test.YtoeaoanaefipaaaWShare
import Derived.Test.YtoeaoanaefipaaaWN
import Derived.Test.YtoeaoanaefipaaaWFootNe
import Derived.Test.YtoeaoanaefipaaaWAt
import Derived.Test.YtoeaoanaefipaaaWEqStruct
import Derived.Test.YtoeaoanaefipaaaWRepsOne
import Derived.Test.YtoeaoanaefipaaaWInv
import Derived.Test.YtoeaoanaefipaaaWInvWords
import Derived.Test.YtoeaoanaefipaaaWGuard
import Derived.Test.YtoeaoanaefipaaaWNEv
import Derived.Test.YtoeaoanaefipaaaWMore
import Derived.Test.YtoeaoanaefipaaaBfh
namespace Go.Proofs.Ytoeaoanaefipaaa.Bfi
open Go.RowKit Go.Proofs.YtoeaoanaefipaaaW.PrintWords Go.Proofs.YtoeaoanaefipaaaW.PrintLast Go.Proofs.YtoeaoanaefipaaaW.PrintMore 
attribute [local go_sem] max2_int min2_int max_two min_two max_three min_three max_four min_four
set_option linter.unusedVariables false
set_option linter.unusedSimpArgs false
open Go.Maps Go.ChangeMaps Go.Proofs.Ytoeaoanaefipaaa.Bf1 Go.Proofs.Ytoeaoanaefipaaa.Bf2 Go.Proofs.Ytoeaoanaefipaaa.Bf3 Go.Proofs.Ytoeaoanaefipaaa.BfP Go.Proofs.Ytoeaoanaefipaaa.Bf4 Go.Proofs.Ytoeaoanaefipaaa.Bf5 Go.Proofs.Ytoeaoanaefipaaa.Bf6 Go.Proofs.Ytoeaoanaefipaaa.Bf7 Go.Proofs.Ytoeaoanaefipaaa.Bf8 Go.Proofs.Ytoeaoanaefipaaa.Bf9 Go.Proofs.Ytoeaoanaefipaaa.BfN Go.Proofs.Ytoeaoanaefipaaa.Bfa Go.Proofs.Ytoeaoanaefipaaa.BfQ Go.Proofs.Ytoeaoanaefipaaa.Bfb Go.Proofs.Ytoeaoanaefipaaa.Bfc Go.Proofs.Ytoeaoanaefipaaa.Bfd Go.Proofs.Ytoeaoanaefipaaa.Bfe Go.Proofs.Ytoeaoanaefipaaa.Bfg Go.Proofs.Ytoeaoanaefipaaa.Bfh
attribute [local go_sem] cellS1 frozenS1 cellS2 frozenS2 cellS3 frozenS3 cellS4 frozenS4 cellS5 frozenS5 cellS6 frozenS6

theorem own_empty (w : World) (n0 : Nat) (e : TypeId) (size : Nat) (h : n0 ≤ w.heap.size) : (w.alloc (.cells #[] e)).ownsRow n0 e size (.slice (some ⟨w.heap.size, 0, none⟩) 0 0) 0 [] :=
  ⟨by simp, .inr ⟨w.heap.size, 0, #[], rfl, h, blk_new _ _, Nat.le_refl _, Nat.zero_le _, by simp, by simp⟩⟩
theorem rf_one {z w : World} {P : List Rt} (h : ∀ p ∈ P, RBytes z w p) : ∀ u ∈ rf P, u.oneCell' = true := by
  intro u hu
  unfold rf at hu
  obtain ⟨p, hp, hu⟩ := List.mem_flatMap.1 hu
  have hb := h p hp
  unfold RBytes at hb
  obtain ⟨S, c, e⟩ := own_slice2 hb
  rw [e] at hu
  simp at hu
  rcases hu with rfl | rfl | rfl <;> rfl
theorem rcells {w : World} {n0 n c : Nat} {gr : Nat} {P : List Rt} (h : w.ownsRow n0 60 3 (.slice (some ⟨gr, 0, none⟩) n c) n (rf P)) (off : Nat) (Q : List Value) (hQ : ∀ j u, Q[j]? = some u → (rf P)[off + j]? = some u) : ∀ j u, Q[j]? = some u → w.cell? ((⟨gr, off, none⟩ : Addr).add j) = some u := by
  intro j u hj
  have h1 := hQ j u hj
  rcases h.2 with ⟨e, _⟩ | ⟨g, cap, cur, e, hb, hg, hnc, _, hs, ht⟩
  · cases e
  · cases e
    have hlt : off + j < (rf P).length := (List.getElem?_eq_some_iff.1 h1).1
    rw [h.1] at hlt
    rw [← ht, List.getElem?_take_of_lt hlt] at h1
    rw [show ((⟨gr, off, none⟩ : Addr).add j) = ⟨gr, off + j, none⟩ by simp [Addr.add] <;> omega, blk_cell hg]
    simpa using h1
theorem take_at (P : List Rt) (m : Nat) : ∀ j u, (rf (P.take m))[j]? = some u → (rf P)[0 + j]? = some u := by
  intro j u hj
  rw [← rf_take, List.getElem?_take] at hj
  split at hj
  · rw [Nat.zero_add]; exact hj
  · cases hj
theorem drop_at (P : List Rt) (m : Nat) : ∀ j u, (rf (P.drop m))[j]? = some u → (rf P)[m * 3 + j]? = some u := by
  intro j u hj
  rw [← rf_drop, List.getElem?_drop] at hj
  exact hj
theorem below_app2 {w w1 w2 : World} {n0 e size n : Nat} {v : Value} {xs : List Value} (hb : Below w.heap.size w w1) (ho : w1.ownsRow w.heap.size e size v n xs) (h : w1.grownBy w2 v.ownBlock) : Below w.heap.size w w2 := hb.grown h hb.size (fun r er => (own_ge ho er).1)
set_option maxRecDepth 100000 in
set_option maxHeartbeats 1000000 in
theorem ref_without (h : Nat) (mo : Int) (P : List Rt) (lo : Int) (A : Option Addr) (c at_ : Nat) (z w : World) (k : IsR z w h mo P lo A c) (hl : P.length ≤ 64) (hat : at_ < P.length) : Calls Try.prog 29 #[.pointer (some ⟨h, 0, none⟩), .int .i64 (at_ : Int)] w fun en w' => ∃ (Al : Option Addr) (cl : Nat), en = .returned (.tuple #[]) ∧ IsR z w' h mo (P.eraseIdx at_) lo Al cl ∧ Upd (fun j => j = h) w w' := by
  obtain ⟨i60, hi60, hz60, hs60, hb60⟩ := info_parts info60
  obtain ⟨gr, hA, hnc, hcc⟩ : ∃ gr, A = some ⟨gr, 0, none⟩ ∧ P.length ≤ c ∧ True := by
    rcases own_form k.2.2.1 with ⟨_, e2, _⟩ | ⟨gk, e1, e2, _⟩
    · omega
    · exact ⟨gk, e1, e2, trivial⟩
  subst hA
  have hrow := k.2.2.1
  have hone := rf_one k.2.2.2
  have HK := Aside0.mk k
  have HROW := Aside0.mk hrow
  have HONE := Aside0.mk hone
  have c1 : w.cell? ⟨h, 1, none⟩ = some (.slice (some ⟨gr, 0, none⟩) P.length c) := (blk_cell k.1 1).trans rfl
  have hz0 : (0 : Int) ≤ (at_ : Int) := by omega
  have hz1 : (at_ : Int) ≤ (c : Int) := by omega
  have hz2 : (at_ : Int) + 1 ≤ (P.length : Int) := by omega
  have hz3 : (0 : Int) ≤ (at_ : Int) + 1 := by omega
  obtain ⟨rest, hrest⟩ : ∃ rest, P.length - (at_ + 1) = rest := ⟨_, rfl⟩
  have HREST := Aside0.mk hrest
  clear k hrow hone hcc hrest
  go_enter Try.func29, Try.ntmps29
  go_upto_region 1 with (first | (at_builtin; go_loud (refine wpList_append_own _ rfl _ _ 47 rfl w.heap.size 60 i60 _ 3 40 Try.underlying47 hi60 hz60 hs60 hb60 rfl (by decide) _ _ _ rfl (own_empty w _ 60 3 (Nat.le_refl _)) ⟨gr, 0, none⟩ at_ c (rf (P.take at_)) rfl (by rw [rf_len, List.length_take]; omega) (rcells (HROW.out.kept (World.grownBy_alloc _ _ none) (by simp [Value.ownBlock])) 0 _ (take_at P at_)) (fun u hu => HONE.out u (by rw [← rf_take] at hu; exact List.mem_of_mem_take hu)) (by unfold maxLen; omega) (by omega) (by simp) ?_; intro v' w1 hown' hgrow _; have b1 := below_app2 (n0 := 0) (below_alloc (Below.refl _ _) _) (own_empty w _ 60 3 (Nat.le_refl _)) hgrow; obtain ⟨Ap, cq, rfl⟩ := own_slice2 hown'; have O1 := Aside0.mk hown'; have B1 := Aside0.mk b1; have c1w := cell_bel b1 c1; clear hown' hgrow b1)))
  have o1 : w1.ownsRow w.heap.size 60 3 (.slice Ap at_ cq) at_ (rf (P.take at_)) := by
    have h1 := O1.out
    rw [Nat.zero_add] at h1
    obtain ⟨Ax, cx, e⟩ := own_slice2 h1
    cases e
    exact h1
  have hw1 := B1.out.size
  have hrow1 := HROW.out.kept (row := none) (grown_below B1.out) (by simp [Value.ownBlock])
  have HROW1 := Aside0.mk hrow1
  clear hrow1
  by_cases hce : c = at_ + 1
  · go_upto_region 2 with (first | (at_builtin; go_loud (refine wpList_append_own _ rfl _ _ 47 rfl w.heap.size 60 i60 _ 3 40 Try.underlying47 hi60 hz60 hs60 hb60 rfl (by decide) _ _ _ rfl o1 ⟨gr, 0, none⟩ (P.length - (at_ + 1)) 0 (rf (P.drop (at_ + 1))) rfl (by rw [rf_len, List.length_drop]) (fun j u hj => by have h0 : P.drop (at_ + 1) = [] := List.drop_eq_nil_of_le (by omega); rw [h0] at hj; cases hj) (fun u hu => HONE.out u (by rw [← rf_drop] at hu; exact List.mem_of_mem_drop hu)) (by unfold maxLen; omega) (by omega) (by omega) ?_; intro v' w2 hown' hgrow _; have b2 := below_app2 (n0 := 0) B1.out o1 hgrow; obtain ⟨Aq, cz, rfl⟩ := own_slice2 hown'; have O2 := Aside0.mk hown'; have B2 := Aside0.mk b2; clear hown' hgrow b2)))
    have f1w : w2.frozen? ⟨h, 1, none⟩ = false := blk_frozen (HK.out.below B2.out).1 1
    have c1z := cell_bel B2.out c1
    go_wp2
    go_end0
    have hR := HK.out.below B2.out
    have hgr := grownBy_setC w2 ⟨h, 1, none⟩ (.slice Aq (at_ + (P.length - (at_ + 1))) cz)
    have hlen : (P.eraseIdx at_).length = at_ + (P.length - (at_ + 1)) := by rw [List.length_eraseIdx, if_pos hat]; omega
    have hrf : rf (P.take at_) ++ rf (P.drop (at_ + 1)) = rf (P.eraseIdx at_) := by rw [← rf_append, List.eraseIdx_eq_take_drop_succ]
    have o2 := O2.out
    rw [hrf] at o2
    refine ⟨Aq, cz, rfl, ⟨?_, hR.2.1, ?_, fun p hp => ?_⟩, Upd.setCell (S := fun j => j = h) (p := ⟨h, 1, none⟩) (Upd.of_below B2.out) (Or.inl rfl) _⟩
    · rw [hlen]
      exact blk_put hR.1 1 _ rfl
    · rw [hlen]
      exact Go.Joins.ownsRow_le (o2.kept hgr (Or.inr (own_off o2 hR.1 (by decide)))) (by have := HK.out.2.1; have := blk_lt HK.out.1; omega)
    · have hb := hR.2.2.2 p (List.mem_of_mem_eraseIdx hp)
      exact World.ownsRow.kept hb hgr (Or.inr (own_off hb hR.1 (by decide)))
  · go_upto_region 2 with (first | (at_builtin; go_loud (refine wpList_append_own _ rfl _ _ 47 rfl w.heap.size 60 i60 _ 3 40 Try.underlying47 hi60 hz60 hs60 hb60 rfl (by decide) _ _ _ rfl o1 ⟨gr, (at_ + 1) * 3, none⟩ (P.length - (at_ + 1)) (c - (at_ + 1)) (rf (P.drop (at_ + 1))) rfl (by rw [rf_len, List.length_drop]) (rcells HROW1.out ((at_ + 1) * 3) _ (drop_at P (at_ + 1))) (fun u hu => HONE.out u (by rw [← rf_drop] at hu; exact List.mem_of_mem_drop hu)) (by unfold maxLen; omega) (by omega) (by omega) ?_; intro v' w2 hown' hgrow _; have b2 := below_app2 (n0 := 0) B1.out o1 hgrow; obtain ⟨Aq, cz, rfl⟩ := own_slice2 hown'; have O2 := Aside0.mk hown'; have B2 := Aside0.mk b2; clear hown' hgrow b2)))
    have f1w : w2.frozen? ⟨h, 1, none⟩ = false := blk_frozen (HK.out.below B2.out).1 1
    have c1z := cell_bel B2.out c1
    go_wp2
    go_end0
    have hR := HK.out.below B2.out
    have hgr := grownBy_setC w2 ⟨h, 1, none⟩ (.slice Aq (at_ + (P.length - (at_ + 1))) cz)
    have hlen : (P.eraseIdx at_).length = at_ + (P.length - (at_ + 1)) := by rw [List.length_eraseIdx, if_pos hat]; omega
    have hrf : rf (P.take at_) ++ rf (P.drop (at_ + 1)) = rf (P.eraseIdx at_) := by rw [← rf_append, List.eraseIdx_eq_take_drop_succ]
    have o2 := O2.out
    rw [hrf] at o2
    refine ⟨Aq, cz, rfl, ⟨?_, hR.2.1, ?_, fun p hp => ?_⟩, Upd.setCell (S := fun j => j = h) (p := ⟨h, 1, none⟩) (Upd.of_below B2.out) (Or.inl rfl) _⟩
    · rw [hlen]
      exact blk_put hR.1 1 _ rfl
    · rw [hlen]
      exact Go.Joins.ownsRow_le (o2.kept hgr (Or.inr (own_off o2 hR.1 (by decide)))) (by have := HK.out.2.1; have := blk_lt HK.out.1; omega)
    · have hb := hR.2.2.2 p (List.mem_of_mem_eraseIdx hp)
      exact World.ownsRow.kept hb hgr (Or.inr (own_off hb hR.1 (by decide)))
end Go.Proofs.Ytoeaoanaefipaaa.Bfi
