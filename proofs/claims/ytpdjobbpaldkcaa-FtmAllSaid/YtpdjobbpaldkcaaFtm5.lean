/- What the plain trimming and the plain middle come to. -/
import Derived.Test.YtpdjobbpaldkcaaProg
import Derived.Below
import Derived.Deep.Draws
import Derived.Deep.AppendLies
import Derived.Maps.AppendAt
import Derived.OwnWalk
import Derived.Laws.BytesArg
import Derived.Laws.MakeOwn
import Derived.Laws.OwnMore
import Derived.Deep.OwnRows
import Derived.Tactics
import Derived.Lib.ConvBytes
import Derived.Laws.Slices
import Derived.WalkKit
import Derived.KernelRfl
import Derived.RowKit3
import Derived.Deep.LoopGhost
import Derived.Deep.QuietTactic
import Derived.BigQuiet
import Derived.WideLaws
import Derived.Deep.DeepCutAuto
import Derived.Deep.CutBlock
import Derived.Deep.RegionHeld3
import Derived.Laws.Rows
import Derived.Lib.AppendStr
import Derived.ArgAppend
import Derived.Laws.IdiomCopy
import Derived.OrdersHeld
import Derived.Laws.BitsLemmas
import Derived.RowKit
import Derived.RegionTactic
import Derived.ChangeAlike
import Derived.Outline
import Derived.LoopTactic
import Derived.WalkSpells
import Derived.WalkLawsBesides
import Derived.Lib.Hide
import Derived.StillTailTactics
import Derived.Deep.RegionWith
import Derived.Deep.RegionLaw
import Derived.Deep.DeepFit
import Derived.Deep.DeepMust
import Derived.Test.YtpdjobbpaldkcaaWWords
import Derived.Test.YtpdjobbpaldkcaaWLast
import Derived.Test.YtpdjobbpaldkcaaWTab
import Derived.Test.YtpdjobbpaldkcaaWFour
import Derived.Test.YtpdjobbpaldkcaaWQPut
import Derived.Test.YtpdjobbpaldkcaaWApart
import Derived.Test.YtpdjobbpaldkcaaWArr
import Derived.Test.YtpdjobbpaldkcaaWZeros
import Derived.Test.YtpdjobbpaldkcaaWFoot
import Derived.Test.YtpdjobbpaldkcaaWKept
import Derived.Test.YtpdjobbpaldkcaaWShare
import Derived.Test.YtpdjobbpaldkcaaWN
import Derived.Test.YtpdjobbpaldkcaaWFootNe
import Derived.Test.YtpdjobbpaldkcaaWAt
import Derived.Test.YtpdjobbpaldkcaaWEqStruct
import Derived.Test.YtpdjobbpaldkcaaWRepsOne
import Derived.Test.YtpdjobbpaldkcaaWInv
import Derived.Test.YtpdjobbpaldkcaaWInvWords
import Derived.Test.YtpdjobbpaldkcaaWGuard
import Derived.Test.YtpdjobbpaldkcaaWNEv
import Derived.Test.YtpdjobbpaldkcaaWMore
import Derived.Test.YtpdjobbpaldkcaaFtm4
namespace Go.Proofs.Ytpdjobbpaldkcaa.Ftm5
open Go.RowKit Go.Proofs.YtpdjobbpaldkcaaW.PrintWords Go.Proofs.YtpdjobbpaldkcaaW.PrintLast Go.Proofs.YtpdjobbpaldkcaaW.PrintMore 
attribute [local go_sem] max2_int min2_int max_two min_two max_three min_three max_four min_four
set_option linter.unusedVariables false
set_option linter.unusedSimpArgs false
open Go.Proofs.Ytpdjobbpaldkcaa.QFtm Go.Proofs.Ytpdjobbpaldkcaa.Ftm1 Go.Proofs.Ytpdjobbpaldkcaa.Ftm2 Go.Proofs.Ytpdjobbpaldkcaa.Ftm4
theorem ins_loop (l : List Int) (f : Int) (s : List Int) (x : Int) (i : Nat) (hs : Sorted s) (hi : i < l.length) (hx : rd l (i : Int) = x) (hsl : s.length < 1000000) (hll : l.length < 1000000) (k : Nat) (r : List Int × Int) (h : carillonref25_Trim.l0 k l f (ins x s) ((i + 1 : Nat) : Int) = some r) (m : Nat) : m ≤ s.length → (∀ y ∈ s.drop m, x < y) →
    ∃ k', carillonref25_Trim.l1 k' l f s (i : Int) (m : Int) = some r := by
  have hw : wrap64 ((i : Int) + 1) = ((i + 1 : Nat) : Int) := by rw [w64 (by omega) (by omega)]; omega
  induction m with
  | zero =>
    intro _ hg
    refine ⟨k + 1, ?_⟩
    simp only [List.drop_zero] at hg
    have e := ins_split x [] s (by simp) hg
    simp only [List.nil_append] at e
    simp only [carillonref25_Trim.l1]
    rw [if_neg (by omega), Option.bind_some, if_pos (by omega), if_pos (by omega), Option.bind_some, if_pos (by simp; try omega), Option.bind_some, if_pos (by omega), if_pos (by omega), if_pos (by simp; try omega), Option.bind_some, Option.bind_some, if_pos (by simp; try omega), hw, hx]
    simp only [Int.toNat_natCast, List.take_zero, List.drop_zero, List.nil_append, List.append_nil, List.singleton_append]
    rw [← e]; exact h
  | succ m ih =>
    intro hm hg
    by_cases hlt : s[m] > x
    · obtain ⟨k', hk'⟩ := ih (by omega) (by
        intro y hy
        rw [List.drop_eq_getElem_cons (by omega)] at hy
        rcases List.mem_cons.1 hy with rfl | hy
        · exact hlt
        · exact hg y hy)
      refine ⟨k' + 1, ?_⟩
      simp only [carillonref25_Trim.l1]
      have hw1 : wrap64 (((m + 1 : Nat) : Int) - 1) = (m : Int) := by rw [w64 (by omega) (by omega)]; omega
      rw [hw1, if_pos (by omega), if_pos (by omega), if_pos (by omega), if_pos (by omega), if_pos (by omega), hx, rd_at s m (by omega), if_pos hlt]
      exact hk'
    · refine ⟨k + 1, ?_⟩
      have hle : ∀ y ∈ s.take (m + 1), y ≤ x := by
        intro y hy
        obtain ⟨j, hj, rfl⟩ := List.getElem_of_mem hy
        rw [List.getElem_take]
        have hj2 : j < m + 1 := by simp at hj; omega
        by_cases ej : j = m
        · subst ej; omega
        · have := List.pairwise_iff_getElem.1 hs j m (by omega) (by omega) (by omega); omega
      have e := ins_split x (s.take (m + 1)) (s.drop (m + 1)) hle hg
      rw [List.take_append_drop] at e
      simp only [carillonref25_Trim.l1]
      have hw1 : wrap64 (((m + 1 : Nat) : Int) - 1) = (m : Int) := by rw [w64 (by omega) (by omega)]; omega
      rw [hw1, if_pos (by omega), if_pos (by omega), if_pos (by omega), if_pos (by omega), if_pos (by omega), hx, rd_at s m (by omega), if_neg hlt, Option.bind_some, if_pos (by omega), if_pos (by omega), Option.bind_some, if_pos (by simp; try omega), Option.bind_some, if_pos (by simp; try omega), Option.bind_some, Option.bind_some, if_pos (by simp; try omega), hw]
      simp only [Int.toNat_natCast, List.nil_append, List.append_assoc, List.singleton_append]
      rw [← e]; exact h
def refF (l : List Int) (f : Int) : List Int × Int := if okAll l then (if (l.length : Int) - f ≤ f then ([], 6) else (srt l, 0)) else ([], 1)
theorem trim_loop (l : List Int) (f : Int) (hf : 0 ≤ f) (hf1 : f ≤ 9223372036854775807) (hl : l.length < 1000000) (n : Nat) : ∀ i : Nat, i + n = l.length → okAll (l.take i) → ∃ k, carillonref25_Trim.l0 k l f (srt (l.take i)) (i : Int) = some (refF l f) := by
  induction n with
  | zero =>
    intro i hi ho
    obtain rfl : i = l.length := by omega
    rw [List.take_length] at ho ⊢
    refine ⟨1, ?_⟩
    simp only [carillonref25_Trim.l0]
    unfold refF
    rw [if_neg (by omega), if_pos ho, srt_length]
    by_cases h1 : f ≥ (l.length : Int)
    · rw [if_pos h1, if_pos (by omega)]
    · rw [if_neg h1, w64 (by omega) (by omega)]
      by_cases h2 : (l.length : Int) - f ≤ f
      · rw [if_pos h2, if_pos h2]
      · rw [if_neg h2, if_neg h2, if_pos (by omega)]
  | succ n ih =>
    intro i hi ho
    have hil : i < l.length := by omega
    obtain ⟨x, hx⟩ : ∃ x, rd l (i : Int) = x := ⟨_, rfl⟩
    have hx' : l[i] = x := by rw [← hx, rd_at l i hil]
    have hts : l.take (i + 1) = l.take i ++ [l[i]] := by rw [List.take_succ_eq_append_getElem hil]
    by_cases hin : -1099511627776 ≤ x ∧ x ≤ 1099511627776
    · obtain ⟨k, hk⟩ := ih (i + 1) (by omega) (by
        rw [hts, hx']; intro y hy
        rcases List.mem_append.1 hy with hy | hy
        · exact ho y hy
        · rw [List.mem_singleton] at hy; omega)
      rw [hts, srt_snoc, hx'] at hk
      have hsl : (srt (l.take i)).length = i := by rw [srt_length]; simp; omega
      obtain ⟨k', hk'⟩ := ins_loop l f (srt (l.take i)) x i (srt_props _).1 hil hx (by omega) hl k _ hk (srt (l.take i)).length (Nat.le_refl _) (by simp)
      refine ⟨k' + 2, ?_⟩
      simp only [carillonref25_Trim.l0]
      rw [if_pos (by omega), if_pos (by omega), hx, if_neg (by omega), decide_eq_false (by omega)]
      simp only [carillonref25_Trim.j1]
      rw [if_neg (by simp)]; exact hk'
    · refine ⟨2, ?_⟩
      have hno : ¬ okAll l := fun h => hin (by have := h _ (List.getElem_mem hil); rwa [hx'] at this)
      have e : refF l f = ([], 1) := by unfold refF; rw [if_neg hno]
      rw [e]
      simp only [carillonref25_Trim.l0]
      rw [if_pos (by omega), if_pos (by omega), hx]
      by_cases h1 : x < -1099511627776
      · rw [if_pos h1]; simp only [carillonref25_Trim.j1]; rw [if_pos trivial]
      · rw [if_neg h1, decide_eq_true (by omega)]; simp only [carillonref25_Trim.j1]; rw [if_pos trivial]
theorem trim_val (l : List Int) (f : Int) (hf1 : f ≤ 9223372036854775807) (hl : l.length < 1000000) : ∃ k r, carillonref25_Trim.f k l f = some r ∧ cutF r.1 f r.2 = (trimF l f).1 ∧ r.2 = (trimF l f).2 := by
  by_cases h0 : f < 0
  · refine ⟨0, _, by unfold carillonref25_Trim.f; rw [if_pos h0], ?_⟩
    unfold cutF trimF; rw [if_pos h0]; simp
  · obtain ⟨k, hk⟩ := trim_loop l f (by omega) hf1 hl l.length 0 (by omega) (by simp [okAll])
    refine ⟨k, refF l f, by unfold carillonref25_Trim.f; rw [if_neg h0]; simpa [srt] using hk, ?_⟩
    unfold cutF trimF refF
    rw [if_neg h0]
    by_cases h1 : okAll l
    · rw [if_pos h1, if_pos h1]
      by_cases h2 : (l.length : Int) - f ≤ f
      · rw [if_pos h2, if_pos h2]; simp
      · rw [if_neg h2, if_neg h2]; simp [srt_length]
    · rw [if_neg h1, if_neg h1]; simp
theorem rtrim_at (A0 : Option Addr) (c0 : Nat) (l : List Int) (f : Int) (w : World) (hr : Kd.C (Kd.int .i64) w A0 l.length l) (hc0 : l.length ≤ c0) (hl : l.length < 1000000) (f0 : -9223372036854775808 ≤ f) (f1 : f ≤ 9223372036854775807) (ys : List Int) (r : Int) (h : trimF l f = (ys, r)) :
    Calls Try.prog 11 #[.slice A0 l.length c0, .int .i64 f] w fun e w' => ∃ A c, e = .returned (.tuple #[.slice A ys.length c, .int .i64 r]) ∧ Kd.C (Kd.int .i64) w' A ys.length ys ∧ Below w.heap.size w w' := by
  obtain ⟨k, q, hk, h1, h2⟩ := trim_val l f f1 hl
  have := carillonref25_Trim.calls k A0 c0 l f q.1 q.2 w hr hc0 hk
  rw [h1, h2, h] at this
  exact this
set_option maxRecDepth 100000 in
set_option maxHeartbeats 4000000 in
theorem rmiddle_any (A0 : Option Addr) (c0 : Nat) (l : List Int) (f : Int) (w : World) (hr0 : Kd.C (Kd.int .i64) w A0 l.length l) (hc0 : l.length ≤ c0) (hl : l.length < 1000000) (f0 : -9223372036854775808 ≤ f) (f1 : f ≤ 9223372036854775807) :
    Calls Try.prog 12 #[.slice A0 l.length c0, .int .i64 f] w fun e w' => e = .returned (.tuple #[.int .i64 (midF l f).1, .int .i64 (midF l f).2]) ∧ Below w.heap.size w w' := by
  by_cases h : (trimF l f).2 = 0
  · obtain ⟨g0, g1, g2, g3⟩ := trim_ok l f h
    have hm := mem_trim l f
    have hlen : (trimF l f).1.length = l.length - 2 * f.toNat := by rw [g3, List.length_drop, List.length_take, srt_length]; omega
    obtain ⟨ys, hys⟩ : ∃ ys, (trimF l f).1 = ys := ⟨_, rfl⟩
    have HM := Aside0.mk (show midF l f = ((rd ys 0 + rd ys (ys.length - 1)).tdiv 2, 0) by unfold midF; rw [if_pos h, hys])
    have HT := Aside0.mk (rtrim_at A0 c0 l f w hr0 hc0 hl f0 f1 ys 0 (Prod.ext hys h))
    rw [hys] at hlen hm
    clear hr0
    have hy0 : 0 < ys.length := by omega
    have b0 : ∀ i : Nat, i < ys.length → -1099511627776 ≤ rd ys i ∧ rd ys i ≤ 1099511627776 := fun i hi => by
      rw [rd_at ys i hi]
      exact g1 _ (hm _ (List.getElem_mem hi)).2
    have y0 := b0 0 hy0
    have y1 := b0 (ys.length - 1) (by omega)
    rw [show ((ys.length - 1 : Nat) : Int) = (ys.length : Int) - 1 by omega] at y1
    have hyl : ys.length ≤ 140737488351232 := by omega
    clear b0 hlen hm hys g0 g1 g2 g3 h hl
    obtain ⟨p0, hp0⟩ : ∃ p, rd ys 0 = p := ⟨_, rfl⟩
    obtain ⟨p1, hp1⟩ : ∃ p, rd ys (ys.length - 1) = p := ⟨_, rfl⟩
    have HP0 := Aside0.mk hp0
    have HP1 := Aside0.mk hp1
    rw [show ((0 : Nat) : Int) = 0 from rfl, hp0] at y0
    rw [hp1] at y1
    obtain ⟨y0a, y0b⟩ := y0
    obtain ⟨y1a, y1b⟩ := y1
    clear hp0 hp1
    go_enter Try.func12, Try.ntmps12
    go_wp2_with fail
    refine HT.out.mono ?_
    rintro e w1 ⟨A, c, rfl, hC, hB⟩
    obtain ⟨ad, e1, hx0⟩ := Kd.at_int hC 0 (by omega) (by omega)
    cases e1
    obtain ⟨ad2, e2, hx1⟩ := Kd.at_int hC ((ys.length : Int) - 1) (by omega) (by omega)
    cases e2
    rw [HP0.out] at hx0
    rw [HP1.out] at hx1
    have HB := Aside0.mk hB
    have e0 : ad.add (Int.toNat 0) = ad := by cases ad; simp [Addr.add]
    have hx0' : w1.cell? ad = some (.int .i64 p0) := by rw [e0] at hx0; exact hx0
    clear e0
    have hx1' : w1.cell? (ad.add (ys.length - 1)) = some (.int .i64 p1) := by rwa [show ((ys.length : Int) - 1).toNat = ys.length - 1 by omega] at hx1
    have hy1 : 1 ≤ (ys.length : Int) := by omega
    clear hC hB HT hx0 hx1
    go_wp2
    go_quiet (fail)
    go_wp2
    go_ret2
    rw [HM.out]
    rw [HP0.out, HP1.out]
    exact ⟨by simp, by apply pw_below_drewN; exact HB.out⟩
  · have HM := Aside0.mk (show midF l f = (0, (trimF l f).2) by unfold midF; rw [if_neg h])
    have hb : ((trimF l f).2 == 0) = false := beq_eq_false_iff_ne.2 h
    have hb2 : ((trimF l f).2 != 0) = true := bne_iff_ne.2 h
    obtain ⟨r, hr⟩ : ∃ r, (trimF l f).2 = r := ⟨_, rfl⟩
    rw [hr] at HM hb hb2
    have HT := Aside0.mk (rtrim_at A0 c0 l f w hr0 hc0 hl f0 f1 (trimF l f).1 r (Prod.ext rfl hr))
    clear h hr hr0
    go_enter Try.func12, Try.ntmps12
    go_wp2_with fail
    refine HT.out.mono ?_
    rintro e w1 ⟨A, c, rfl, hC, hB⟩
    have HB := Aside0.mk hB
    clear hC hB HT
    go_wp2
    go_ret2
    rw [HM.out]
    exact ⟨rfl, HB.out⟩
end Go.Proofs.Ytpdjobbpaldkcaa.Ftm5
