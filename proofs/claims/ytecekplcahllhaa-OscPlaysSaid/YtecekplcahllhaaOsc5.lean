/- What both clocks come to, act by act. -/
import Derived.Test.YtecekplcahllhaaProg
import Derived.Below
import Derived.Deep.Draws
import Derived.Deep.AppendLies
import Derived.Maps.AppendAt
import Derived.OwnWalk
import Derived.Laws.BytesArg
import Derived.Laws.MakeOwn
import Derived.Laws.OwnMore
import Derived.Deep.OwnRows
import Derived.Tactics
import Derived.Lib.ConvBytes
import Derived.Laws.Slices
import Derived.WalkKit
import Derived.KernelRfl
import Derived.RowKit3
import Derived.Deep.LoopGhost
import Derived.Deep.QuietTactic
import Derived.BigQuiet
import Derived.WideLaws
import Derived.Deep.DeepCutAuto
import Derived.Deep.CutBlock
import Derived.Deep.RegionHeld3
import Derived.Laws.Rows
import Derived.Lib.AppendStr
import Derived.ArgAppend
import Derived.Laws.IdiomCopy
import Derived.OrdersHeld
import Derived.Laws.BitsLemmas
import Derived.RowKit
import Derived.RegionTactic
import Derived.ChangeAlike
import Derived.Outline
import Derived.LoopTactic
import Derived.WalkSpells
import Derived.WalkLawsBesides
import Derived.Lib.Hide
import Derived.StillTailTactics
import Derived.Deep.RegionWith
import Derived.Deep.RegionLaw
import Derived.Deep.DeepFit
import Derived.Deep.DeepMust
import Derived.Test.YtecekplcahllhaaWWords
import Derived.Test.YtecekplcahllhaaWLast
import Derived.Test.YtecekplcahllhaaWTab
import Derived.Test.YtecekplcahllhaaWFour
import Derived.Test.YtecekplcahllhaaWQPut
import Derived.Test.YtecekplcahllhaaWApart
import Derived.Test.YtecekplcahllhaaWArr
import Derived.Test.YtecekplcahllhaaWZeros
import Derived.Test.YtecekplcahllhaaWFoot
import Derived.Test.YtecekplcahllhaaWKept
import Derived.Test.YtecekplcahllhaaWShare
import Derived.Test.YtecekplcahllhaaWN
import Derived.Test.YtecekplcahllhaaWFootNe
import Derived.Test.YtecekplcahllhaaWAt
import Derived.Test.YtecekplcahllhaaWEqStruct
import Derived.Test.YtecekplcahllhaaWRepsOne
import Derived.Test.YtecekplcahllhaaWInv
import Derived.Test.YtecekplcahllhaaWInvWords
import Derived.Test.YtecekplcahllhaaWGuard
import Derived.Test.YtecekplcahllhaaWNEv
import Derived.Test.YtecekplcahllhaaWMore
import Derived.Test.YtecekplcahllhaaOsc1
import Derived.Test.YtecekplcahllhaaPOscPlaysx1
import Derived.OpenShut
namespace Go.Proofs.Ytecekplcahllhaa.Osc5
open Go.RowKit Go.Proofs.YtecekplcahllhaaW.PrintWords Go.Proofs.YtecekplcahllhaaW.PrintLast Go.Proofs.YtecekplcahllhaaW.PrintMore 
attribute [local go_sem] max2_int min2_int max_two min_two max_three min_three max_four min_four
set_option linter.unusedVariables false
set_option linter.unusedSimpArgs false
open Go.Proofs.Ytecekplcahllhaa.Osc Go.Proofs.Ytecekplcahllhaa.POscPlays
def stepF (s hd t o n : Int) : Int × Int × Int × Int :=
  if n < 0 ∨ 1099511627776 < n then (1, hd, t, o)
  else if 1099511627776 < hd + n ∨ 1099511627776 < t + n + pay s o n then (9, hd, t, o)
  else (0, hd + n, t + n + pay s o n, o - pay s o n)
def adjF (hd t o n : Int) : Int × Int × Int × Int := if n < -1099511627776 ∨ 1099511627776 < n then (1, hd, t, o) else (0, hd, t, n)
def setF (hd t o n : Int) : Int × Int × Int × Int := if n < 0 ∨ 1099511627776 < n then (1, hd, t, o) else (0, hd, n, 0)
def St (s hd t o : Int) : Prop := 0 ≤ s ∧ s ≤ 49 ∧ 0 ≤ hd ∧ hd ≤ 1099511627776 ∧ 0 ≤ t ∧ t ≤ 1099511627776 ∧ -10000000000000 ≤ o ∧ o ≤ 10000000000000
theorem pay_bd (s o n : Int) (s0 : 0 ≤ s) (s1 : s ≤ 49) (n0 : 0 ≤ n) (n1 : n ≤ 1099511627776) : -n ≤ pay s o n ∧ (0 ≤ o → 0 ≤ pay s o n ∧ pay s o n ≤ o) ∧ (o ≤ 0 → o ≤ pay s o n ∧ pay s o n ≤ 0) := by
  have := most_bd s n s0 s1 n0 n1
  unfold pay; omega
theorem step_St (s hd t o n r hd' t' o' : Int) (h : St s hd t o) (e : stepF s hd t o n = (r, hd', t', o')) : St s hd' t' o' := by
  unfold stepF at e
  split at e
  · cases e; exact h
  · split at e
    · cases e; exact h
    · cases e
      rename_i a b
      unfold St at *
      have := pay_bd s o n (by omega) (by omega) (by omega) (by omega)
      omega
theorem adj_St (s hd t o n r hd' t' o' : Int) (h : St s hd t o) (e : adjF hd t o n = (r, hd', t', o')) : St s hd' t' o' := by
  unfold adjF at e
  split at e
  · cases e; exact h
  · cases e; unfold St at *; omega
theorem set_St (s hd t o n r hd' t' o' : Int) (h : St s hd t o) (e : setF hd t o n = (r, hd', t', o')) : St s hd' t' o' := by
  unfold setF at e
  split at e
  · cases e; exact h
  · cases e; unfold St at *; omega
theorem step_all (b : Nat) (s hd t o n : Int) (w : World) (h : clk w b s hd t o) (hs : St s hd t o) :
    Calls Try.prog 11 #[.pointer (some ⟨b, 0, none⟩), .int .i64 n] w fun e w' => ∃ r hd' t' o', e = .returned (.int .i64 r) ∧ Aside0 (stepF s hd t o n = (r, hd', t', o')) ∧ clk w' b s hd' t' o' ∧ Upd (· = b) w w' := by
  obtain ⟨s0, s1, d0, d1, t0, t1, o0, o1⟩ := hs
  by_cases a : n < 0 ∨ 1099511627776 < n
  · refine (step_arg b s hd t o n w h a).mono ?_
    rintro e w' ⟨rfl, h1, h2⟩
    exact ⟨_, _, _, _, rfl, ⟨by unfold stepF; rw [if_pos a]⟩, h1, h2⟩
  · by_cases c : 1099511627776 < hd + n ∨ 1099511627776 < t + n + pay s o n
    · refine (step_full b s hd t o n w h s0 s1 d0 t0 d1 t1 (by omega) (by omega) o0 o1 c).mono ?_
      rintro e w' ⟨rfl, h1, h2⟩
      exact ⟨_, _, _, _, rfl, ⟨by unfold stepF; rw [if_neg a, if_pos c]⟩, h1, h2⟩
    · refine (step_ok b s hd t o n w h s0 s1 d0 t0 d1 t1 (by omega) (by omega) o0 o1 (by omega) (by omega)).mono ?_
      rintro e w' ⟨rfl, h1, h2⟩
      exact ⟨_, _, _, _, rfl, ⟨by unfold stepF; rw [if_neg a, if_neg c]⟩, h1, h2⟩
theorem adjust_all (b : Nat) (s hd t o n : Int) (w : World) (h : clk w b s hd t o) :
    Calls Try.prog 8 #[.pointer (some ⟨b, 0, none⟩), .int .i64 n] w fun e w' => ∃ r hd' t' o', e = .returned (.int .i64 r) ∧ Aside0 (adjF hd t o n = (r, hd', t', o')) ∧ clk w' b s hd' t' o' ∧ Upd (· = b) w w' := by
  by_cases a : n < -1099511627776 ∨ 1099511627776 < n
  · refine (adjust_no b s hd t o n w h a).mono ?_
    rintro e w' ⟨rfl, rfl⟩
    exact ⟨_, _, _, _, rfl, ⟨by unfold adjF; rw [if_pos a]⟩, h, Upd.refl _ _⟩
  · refine (adjust_ok b s hd t o n w h (by omega) (by omega)).mono ?_
    rintro e w' ⟨rfl, h1, h2⟩
    exact ⟨_, _, _, _, rfl, ⟨by unfold adjF; rw [if_neg a]⟩, h1, h2⟩
theorem set_all (b : Nat) (s hd t o n : Int) (w : World) (h : clk w b s hd t o) :
    Calls Try.prog 14 #[.pointer (some ⟨b, 0, none⟩), .int .i64 n] w fun e w' => ∃ r hd' t' o', e = .returned (.int .i64 r) ∧ Aside0 (setF hd t o n = (r, hd', t', o')) ∧ clk w' b s hd' t' o' ∧ Upd (· = b) w w' := by
  by_cases a : n < 0 ∨ 1099511627776 < n
  · refine (set_no b s hd t o n w h a).mono ?_
    rintro e w' ⟨rfl, rfl⟩
    exact ⟨_, _, _, _, rfl, ⟨by unfold setF; rw [if_pos a]⟩, h, Upd.refl _ _⟩
  · refine (set_ok b s hd t o n w h (by omega) (by omega)).mono ?_
    rintro e w' ⟨rfl, h1, h2⟩
    exact ⟨_, _, _, _, rfl, ⟨by unfold setF; rw [if_neg a]⟩, h1, h2⟩
theorem w64 {n : Int} (h0 : -9223372036854775808 ≤ n) (h1 : n ≤ 9223372036854775807) : wrap64 n = n := by unfold wrap64; omega
theorem rstep_eq (s hd t o n r hd' t' o' : Int) (h : St s hd t o) (n0 : -9223372036854775808 ≤ n) (n1 : n ≤ 9223372036854775807) (e : stepF s hd t o n = (r, hd', t', o')) : carillonref18_Clock_Step.f 1 s hd t o n = some (r, s, hd', t', o') := by
  obtain ⟨s0, s1, d0, d1, t0, t1, o0, o1⟩ := h
  unfold stepF at e
  unfold carillonref18_Clock_Step.f
  by_cases a : n < 0
  · rw [if_pos (Or.inl a)] at e
    cases e
    rw [if_pos a]; rfl
  · rw [if_neg a]
    by_cases a2 : 1099511627776 < n
    · rw [if_pos (Or.inr a2)] at e
      cases e
      rw [decide_eq_true (by omega)]; rfl
    · rw [if_neg (by omega)] at e
      have hb := pay_bd s o n s0 s1 (by omega) (by omega)
      have hm := most_bd s n s0 s1 (by omega) (by omega)
      have hmm : wrap64 (s * wrap64 (Int.tdiv (wrap64 (n + 50)) 100)) = most s n := by
        rw [w64 (n := n + 50) (by omega) (by omega), Int.tdiv_eq_ediv_of_nonneg (by omega), w64 (n := (n + 50) / 100) (by omega) (by omega)]
        unfold most at *
        exact w64 (by omega) (by omega)
      have hp : mn (mx (mx o (wrap64 (-most s n))) (wrap64 (-n))) (most s n) = pay s o n := by
        rw [w64 (n := -most s n) (by omega) (by omega), w64 (n := -n) (by omega) (by omega)]
        unfold pay mx mn
        split <;> split <;> (try split) <;> omega
      rw [decide_eq_false (by omega)]
      simp only [carillonref18_Clock_Step.j0, Bool.false_eq_true, if_false]
      rw [hmm, hp, w64 (n := hd + n) (by omega) (by omega), w64 (n := t + n) (by omega) (by omega), w64 (n := t + n + pay s o n) (by omega) (by omega), w64 (n := o - pay s o n) (by omega) (by omega)]
      by_cases c1 : 1099511627776 < hd + n
      · rw [if_pos (Or.inl c1)] at e
        cases e
        rw [if_pos (by omega)]
      · by_cases c2 : 1099511627776 < t + n + pay s o n
        · rw [if_pos (Or.inr c2)] at e
          cases e
          rw [if_neg (by omega), if_pos (by omega)]
        · rw [if_neg (by omega)] at e
          cases e
          rw [if_neg (by omega), if_neg (by omega)]
theorem radj_eq (s hd t o n r hd' t' o' : Int) (e : adjF hd t o n = (r, hd', t', o')) : carillonref18_Clock_Adjust.f s hd t o n = some (r, s, hd', t', o') := by
  unfold adjF at e
  unfold carillonref18_Clock_Adjust.f
  by_cases a : n < -1099511627776
  · rw [if_pos (Or.inl a)] at e; cases e; rw [if_pos a]
  · by_cases a2 : 1099511627776 < n
    · rw [if_pos (Or.inr a2)] at e; cases e; rw [if_neg a, if_pos (by omega)]
    · rw [if_neg (by omega)] at e; cases e; rw [if_neg a, if_neg (by omega)]
theorem rset_eq (s hd t o n r hd' t' o' : Int) (e : setF hd t o n = (r, hd', t', o')) : carillonref18_Clock_Set.f s hd t o n = some (r, s, hd', t', o') := by
  unfold setF at e
  unfold carillonref18_Clock_Set.f
  by_cases a : n < 0
  · rw [if_pos (Or.inl a)] at e; cases e; rw [if_pos a]
  · by_cases a2 : 1099511627776 < n
    · rw [if_pos (Or.inr a2)] at e; cases e; rw [if_neg a, if_pos (by omega)]
    · rw [if_neg (by omega)] at e; cases e; rw [if_neg a, if_neg (by omega)]
theorem rnew_ok (s : Int) (w : World) (h0 : 0 ≤ s) (h1 : s ≤ 49) :
    Calls Try.prog 15 #[.int .i64 s] w fun e w' => ∃ g, e = .returned (.tuple #[.pointer (some ⟨g, 0, none⟩), .int .i64 0]) ∧ w'.heap[g]? = some (.cells #[.int .i64 s, .int .i64 0, .int .i64 0, .int .i64 0] 45 (0, 0)) ∧ w.heap.size ≤ g ∧ Upd (fun _ => False) w w' := by
  go_enter Try.func15, Try.ntmps15
  go_wp2
  go_ret2
  exact ⟨w.heap.size, rfl, blk_new _ _, Nat.le_refl _, (Upd.refl _ _).alloc _⟩
theorem rnew_no (s : Int) (w : World) (h : s < 0 ∨ 49 < s) :
    Calls Try.prog 15 #[.int .i64 s] w fun e w' => e = .returned (.tuple #[.pointer none, .int .i64 1]) ∧ w' = w := by
  rcases h with h | h
  · go_enter Try.func15, Try.ntmps15
    go_wp2
    go_ret2
    exact ⟨rfl, rfl⟩
  · have h2 : ¬ s < 0 := by omega
    go_enter Try.func15, Try.ntmps15
    go_wp2
    go_ret2
    exact ⟨rfl, rfl⟩
theorem upd_of_keep {z w w' : World} {B B' g : Nat} (h : Below B z w) (h' : Below B' z w') (k : KeepBut w w' g none) : Upd (· = g) w w' :=
  ⟨h'.os.trans h.os.symm, h'.tape.trans h.tape.symm, h'.output.trans h.output.symm, k.1, fun i hi hs => k.2 i hi hs (by simp)⟩
end Go.Proofs.Ytecekplcahllhaa.Osc5
