/- A host as a queue. -/
import Derived.Test.YtmofahlmcpeanaaProg
import Derived.Below
import Derived.Deep.Draws
import Derived.Deep.AppendLies
import Derived.Maps.AppendAt
import Derived.OwnWalk
import Derived.Laws.BytesArg
import Derived.Laws.MakeOwn
import Derived.Laws.OwnMore
import Derived.Deep.OwnRows
import Derived.Tactics
import Derived.Lib.ConvBytes
import Derived.Laws.Slices
import Derived.WalkKit
import Derived.KernelRfl
import Derived.RowKit3
import Derived.Deep.LoopGhost
import Derived.Deep.QuietTactic
import Derived.BigQuiet
import Derived.WideLaws
import Derived.Deep.DeepCutAuto
import Derived.Deep.CutBlock
import Derived.Deep.RegionHeld3
import Derived.Laws.Rows
import Derived.Lib.AppendStr
import Derived.ArgAppend
import Derived.Laws.IdiomCopy
import Derived.OrdersHeld
import Derived.Laws.BitsLemmas
import Derived.RowKit
import Derived.RegionTactic
import Derived.ChangeAlike
import Derived.Outline
import Derived.LoopTactic
import Derived.WalkSpells
import Derived.WalkLawsBesides
import Derived.Lib.Hide
import Derived.StillTailTactics
import Derived.Deep.RegionWith
import Derived.Deep.RegionLaw
import Derived.Deep.DeepFit
import Derived.Deep.DeepMust
import Derived.Test.YtmofahlmcpeanaaWWords
import Derived.Test.YtmofahlmcpeanaaWLast
import Derived.Test.YtmofahlmcpeanaaWTab
import Derived.Test.YtmofahlmcpeanaaWFour
import Derived.Test.YtmofahlmcpeanaaWQPut
import Derived.Test.YtmofahlmcpeanaaWApart
import Derived.Test.YtmofahlmcpeanaaWArr
import Derived.Test.YtmofahlmcpeanaaWZeros
import Derived.Test.YtmofahlmcpeanaaWFoot
import Derived.Test.YtmofahlmcpeanaaWKept
import Derived.Test.YtmofahlmcpeanaaWShare
import Derived.Test.YtmofahlmcpeanaaWN
import Derived.Test.YtmofahlmcpeanaaWFootNe
import Derived.Test.YtmofahlmcpeanaaWAt
import Derived.Test.YtmofahlmcpeanaaWEqStruct
import Derived.Test.YtmofahlmcpeanaaWRepsOne
import Derived.Test.YtmofahlmcpeanaaWInv
import Derived.Test.YtmofahlmcpeanaaWInvWords
import Derived.Test.YtmofahlmcpeanaaWGuard
import Derived.Test.YtmofahlmcpeanaaWNEv
import Derived.Test.YtmofahlmcpeanaaWMore
import Derived.Test.YtmofahlmcpeanaaHs1
namespace Go.Proofs.Ytmofahlmcpeanaa.Hs2
open Go.RowKit Go.Proofs.YtmofahlmcpeanaaW.PrintWords Go.Proofs.YtmofahlmcpeanaaW.PrintLast Go.Proofs.YtmofahlmcpeanaaW.PrintMore 
attribute [local go_sem] max2_int min2_int max_two min_two max_three min_three max_four min_four
set_option linter.unusedVariables false
set_option linter.unusedSimpArgs false
open Go.Joins Go.Proofs.Ytmofahlmcpeanaa.Hs1
attribute [local go_sem] cellS1 frozenS1 cellS2 frozenS2 cellS3 frozenS3 cellS4 frozenS4
/-- A host in memory whose waiting ones are q. -/
def RingIs (z w : World) (g a : Nat) (q : List (List Int)) (iv : Value) (lo : Int) : Prop :=
  ∃ vs, IsH z w g vs a q.length iv lo ∧ a < 16 ∧ q.length ≤ 16 ∧ ∀ k, k < q.length → w.ownsRow z.heap.size 5 1 (vs.getD ((a + k) % 16) undef) (q.getD k []).length ((q.getD k []).map (Value.int .u8))
theorem getD_set_eq {l : List Value} {i : Nat} {v d : Value} (h : i < l.length) : (l.set i v).getD i d = v := by
  rw [List.getD_eq_getElem?_getD, List.getElem?_set_self h]; rfl
theorem getD_set_ne {l : List Value} {i j : Nat} {v d : Value} (h : j ≠ i) : (l.set i v).getD j d = l.getD j d := by
  rw [List.getD_eq_getElem?_getD, List.getElem?_set_ne (fun e => h e.symm), List.getD_eq_getElem?_getD]
theorem submit_long (g a : Nat) (q : List (List Int)) (iv : Value) (lo : Int) (z w : World) (hR : RingIs z w g a q iv lo) (hB : Below z.heap.size z w) (A : Option Addr) (n c : Nat) (hn : 16 < n) (hn2 : n ≤ 9223372036854775807) : Calls Try.prog 7 #[.pointer (some ⟨g, 0, none⟩), .slice A n c] w fun en w' => en = .returned (.int .i64 2) ∧ w' = w := by
  obtain ⟨vs, hI, ha, hm, ho⟩ := hR
  have HI := Aside0.mk hI
  clear hI ho hB
  go_enter Try.func7, Try.ntmps7
  go_wp2_with (first | (go_at_call 19; go_loud (refine (none_ok g vs a q.length iv lo z _ HI.out).mono ?_; rintro en w1 ⟨rfl, e1⟩; rw [e1]; clear e1)))
  go_ret
  exact ⟨rfl, rfl⟩
theorem submit_full (g a : Nat) (q : List (List Int)) (iv : Value) (lo : Int) (z w : World) (hR : RingIs z w g a q iv lo) (hB : Below z.heap.size z w) (A : Option Addr) (n c : Nat) (hn : n ≤ 16) (hq : q.length = 16) : Calls Try.prog 7 #[.pointer (some ⟨g, 0, none⟩), .slice A n c] w fun en w' => en = .returned (.int .i64 9) ∧ w' = w := by
  obtain ⟨vs, hI, ha, hm, ho⟩ := hR
  have HI := Aside0.mk hI
  have HQ := Aside0.mk hq
  clear hI ho hB hq
  go_enter Try.func7, Try.ntmps7
  go_wp2_with (first | (go_at_call 19; go_loud (refine (none_ok g vs a q.length iv lo z _ HI.out).mono ?_; rintro en w1 ⟨rfl, e1⟩; rw [e1]; clear e1)) | (go_at_call 20; go_loud (refine (full_yes g vs a q.length iv lo z _ HI.out HQ.out).mono ?_; rintro en w1 ⟨rfl, e1⟩; rw [e1]; clear e1)))
  go_ret
  exact ⟨rfl, rfl⟩
theorem submit_ok (g a : Nat) (q : List (List Int)) (iv : Value) (lo : Int) (z w : World) (hR : RingIs z w g a q iv lo) (hB : Below z.heap.size z w) (A : Option Addr) (c : Nat) (b : List Int) (hC : Kd.C (Kd.int .u8) w A b.length b) (hbl : b.length ≤ 16) (hq : q.length < 16) : Calls Try.prog 7 #[.pointer (some ⟨g, 0, none⟩), .slice A b.length c] w fun en w' => en = .returned (.int .i64 0) ∧ RingIs z w' g a (q ++ [b]) iv lo ∧ Below z.heap.size z w' ∧ KeepBut w w' g none := by
  obtain ⟨vs, hI, ha, hm, ho⟩ := hR
  have HI := Aside0.mk hI
  have HO := Aside0.mk ho
  have HB := Aside0.mk hB
  have HC := Aside0.mk hC
  clear hI ho hB hC
  go_enter Try.func7, Try.ntmps7
  go_wp2_with (first | (go_at_call 19; go_loud (refine (none_ok g vs a q.length iv lo z _ HI.out).mono ?_; rintro en w1 ⟨rfl, e1⟩; rw [e1]; clear e1)) | (go_at_call 20; go_loud (refine (full_no g vs a q.length iv lo z _ HI.out hq).mono ?_; rintro en w1 ⟨rfl, e1⟩; rw [e1]; clear e1)) | (go_at_call 21; go_loud (refine (put_ok g vs a q.length iv lo z _ HI.out HB.out A c b HC.out hbl ha hq _ rfl).mono ?_; rintro en w2 ⟨v, rfl, a1, a2, a3, a4⟩; have J1 := Aside0.mk a1; have J2 := Aside0.mk a2; have J3 := Aside0.mk a3; have J4 := Aside0.mk a4; clear a1 a2 a3 a4)))
  go_ret
  have hvl := HI.out.2.1
  refine ⟨rfl, ⟨_, by rw [List.length_append]; exact J1.out, ha, by rw [List.length_append]; show q.length + 1 ≤ 16; omega, fun k hk => ?_⟩, J3.out, J4.out⟩
  rw [List.length_append] at hk
  replace hk : k < q.length + 1 := hk
  by_cases hkq : k < q.length
  · rw [getD_set_ne (by omega), show (q ++ [b]).getD k [] = q.getD k [] by rw [List.getD_eq_getElem?_getD, List.getElem?_append_left hkq, List.getD_eq_getElem?_getD]]
    exact KeepBut.own J4.out (HO.out k hkq) (own_off (HO.out k hkq) HI.out.1 (by decide)) (by cases ((vs.getD ((a + k) % 16) undef).ownBlock) <;> simp)
  · obtain rfl : k = q.length := by omega
    rw [getD_set_eq (by omega), show (q ++ [b]).getD q.length [] = b by rw [List.getD_eq_getElem?_getD, List.getElem?_append_right (Nat.le_refl _)]; simp]
    exact Go.Joins.ownsRow_le J2.out HB.out.size
theorem next_empty (g a : Nat) (iv : Value) (lo : Int) (z w : World) (hR : RingIs z w g a [] iv lo) (hB : Below z.heap.size z w) : Calls Try.prog 8 #[.pointer (some ⟨g, 0, none⟩)] w fun en w' => en = .returned (.tuple #[.slice none 0 0, .bool false]) ∧ w' = w := by
  obtain ⟨vs, hI, ha, hm, ho⟩ := hR
  have c17 := hI.c17
  have HI := Aside0.mk hI
  clear hI ho hB
  go_enter Try.func8, Try.ntmps8
  go_wp2_with (first | (go_at_call 19; go_loud (refine (none_ok g vs a 0 iv lo z _ HI.out).mono ?_; rintro en w1 ⟨rfl, e1⟩; rw [e1]; clear e1)))
  go_ret2
  exact ⟨rfl, rfl⟩
theorem next_some (g a : Nat) (b : List Int) (q : List (List Int)) (iv : Value) (lo : Int) (z w : World) (hR : RingIs z w g a (b :: q) iv lo) (hB : Below z.heap.size z w) : Calls Try.prog 8 #[.pointer (some ⟨g, 0, none⟩)] w fun en w' => ∃ A c, en = .returned (.tuple #[.slice A b.length c, .bool true]) ∧ w'.ownsRow z.heap.size 5 1 (.slice A b.length c) b.length (b.map (Value.int .u8)) ∧ RingIs z w' g ((a + 1) % 16) q iv lo ∧ Below z.heap.size z w' ∧ KeepBut w w' g none := by
  obtain ⟨vs, hI, ha, hm, ho⟩ := hR
  have h0 := ho 0 (by simp)
  rw [Nat.add_zero, Nat.mod_eq_of_lt ha] at h0
  replace h0 : w.ownsRow z.heap.size 5 1 (vs.getD a undef) b.length (b.map (Value.int .u8)) := h0
  obtain ⟨A, c, hv⟩ := own_slice h0
  rw [hv] at h0
  have c17 := hI.c17
  have hnz : (((b :: q).length : Nat) == 0) = false := by simp
  have hne : ((((b :: q).length : Nat) : Int) == 0) = false := beq_eq_false_iff_ne.2 (by simp; omega)
  obtain ⟨m, hml⟩ : ∃ m, (b :: q).length = m := ⟨_, rfl⟩
  rw [hml] at hI c17 hm hne
  have hmp : 0 < m := by rw [← hml]; simp
  have HI := Aside0.mk hI
  have HO := Aside0.mk ho
  have HB := Aside0.mk hB
  have H0 := Aside0.mk h0
  have HV := Aside0.mk hv
  have HML := Aside0.mk hml
  clear hI ho hB h0 hv hnz hml
  go_enter Try.func8, Try.ntmps8
  go_wp2_with (first | (go_at_call 19; go_loud (refine (none_ok g vs a m iv lo z _ HI.out).mono ?_; rintro en w1 ⟨rfl, e1⟩; rw [e1]; clear e1)) | (go_at_call 22; go_loud (refine (take_ok g vs a m iv lo z _ HI.out HB.out A b.length c HV.out ha hmp hm _ rfl).mono ?_; rintro en w2 ⟨rfl, a1, a2, a3⟩; have J1 := Aside0.mk a1; have J3 := Aside0.mk a2; have J4 := Aside0.mk a3; clear a1 a2 a3)))
  go_ret2
  have hml := HML.out
  have hvl := HI.out.2.1
  replace hml : q.length + 1 = m := hml
  refine ⟨A, c, rfl, KeepBut.own J4.out H0.out (own_off H0.out HI.out.1 (by decide)) (by cases ((Value.slice A b.length c).ownBlock) <;> simp), ⟨_, by rw [show q.length = m - 1 by omega]; exact J1.out, by omega, by omega, fun k hk => ?_⟩, J3.out, J4.out⟩
  have hk1 := HO.out (k + 1) (by show k + 1 < q.length + 1; omega)
  replace hk1 : w.ownsRow z.heap.size 5 1 (vs.getD ((a + (k + 1)) % 16) undef) (q.getD k []).length ((q.getD k []).map (Value.int .u8)) := hk1
  rw [show ((a + 1) % 16 + k) % 16 = (a + (k + 1)) % 16 by omega, getD_set_ne (by omega)]
  exact KeepBut.own J4.out hk1 (own_off hk1 HI.out.1 (by decide)) (by cases ((vs.getD ((a + (k + 1)) % 16) undef).ownBlock) <;> simp)
theorem ring_waiting (g a : Nat) (q : List (List Int)) (iv : Value) (lo : Int) (z w : World) (hR : RingIs z w g a q iv lo) (hB : Below z.heap.size z w) : Calls Try.prog 9 #[.pointer (some ⟨g, 0, none⟩)] w fun en w' => en = .returned (.int .i64 (q.length : Nat)) ∧ w' = w := by
  obtain ⟨vs, hI, ha, hm, ho⟩ := hR
  exact waiting_ok g vs a q.length iv lo z w hI
theorem new_ring (w : World) : Calls Try.prog 6 #[] w fun en w' => ∃ g, en = .returned (.pointer (some ⟨g, 0, none⟩)) ∧ RingIs w w' g 0 [] (.slice none 0 0) 0 ∧ Below w.heap.size w w' :=
  (new_ok w).mono fun en w' ⟨g, h1, h2, h3⟩ => ⟨g, h1, ⟨_, h2, by omega, by simp, fun k hk => absurd hk (Nat.not_lt_zero _)⟩, h3⟩
theorem RingIs.kept {z w w' : World} {g a : Nat} {q : List (List Int)} {iv : Value} {lo : Int} {row : Option Nat} (h : RingIs z w g a q iv lo) (hg : w.grownBy w' row) (hr : ∀ j, row = some j → j ≠ g ∧ (∀ cs fr, w.heap[j]? ≠ some (.cells cs 5 fr))) : RingIs z w' g a q iv lo := by
  obtain ⟨vs, hI, ha, hm, ho⟩ := h
  refine ⟨vs, hI.grown hg (fun e => (hr g e.symm).1 rfl), ha, hm, fun k hk => (ho k hk).kept hg ?_⟩
  have hk2 := ho k hk
  rcases hk2.2 with ⟨e, _⟩ | ⟨g', cap, cur, e, _, hgg, _⟩
  · rw [e]; exact Or.inl rfl
  · rw [e]
    refine Or.inr (fun e2 => ?_)
    have e3 : row = some g' := by rw [← e2]; rfl
    exact (hr g' e3).2 _ _ hgg
theorem RingIs.drewN {z w : World} {g a : Nat} {q : List (List Int)} {iv : Value} {lo : Int} (h : RingIs z w g a q iv lo) (k : Nat) : RingIs z (w.drewN k) g a q iv lo := h
theorem RingIs.drew {z w : World} {g a : Nat} {q : List (List Int)} {iv : Value} {lo : Int} (h : RingIs z w g a q iv lo) : RingIs z w.drew g a q iv lo := h
theorem one_C (w : World) : Kd.C (Kd.int .u8) (w.alloc (.cells #[.int .u8 1] 5)) (some ⟨w.heap.size, 0, none⟩) 1 [1] := by
  refine Kd.C_of_reads (d := (0 : Int)) (h1 := fun _ => rfl) ⟨rfl, by decide, fun _ => ⟨_, rfl, fun j hj => ?_⟩⟩
  obtain rfl : j = 0 := by omega
  exact World.cell?_alloc_mark w #[.int .u8 1] 5 (0, 0) 0
set_option maxRecDepth 100000 in
set_option maxHeartbeats 4000000 in
theorem awake_ok (w : World) : Calls Try.prog 10 #[] w fun en w' => en = .returned (.bool true) ∧ Below w.heap.size w w' := by
  go_enter Try.func10, Try.ntmps10
  go_wp2_with (first | (go_at_call 6; go_loud (refine (new_ring _).mono ?_; rintro en w1 ⟨g, rfl, a1, a2⟩; have J1 := Aside0.mk a1; have J2 := Aside0.mk a2; clear a1 a2)) | (go_at_call 7; go_loud (refine (submit_ok g 0 [] (.slice none 0 0) 0 w _ (J1.out.kept (World.grownBy_alloc _ _ none) (by simp)) (below_alloc J2.out _) (some ⟨w1.heap.size, 0, none⟩) 1 [1] (one_C w1) (by decide) (by decide)).mono ?_; rintro en w2 ⟨rfl, a1, a2, a3⟩; have L1 := Aside0.mk a1; have L2 := Aside0.mk a2; clear a1 a2 a3)) | (go_at_call 9; go_loud (refine (ring_waiting g 0 _ (.slice none 0 0) 0 w _ L1.out L2.out).mono ?_; rintro en w3 ⟨rfl, rfl⟩)))
  go_ret
  exact ⟨rfl, L2.out⟩
end Go.Proofs.Ytmofahlmcpeanaa.Hs2
