/- For every good and bad numbers carillonlaw25.FtmBetween returns true and leaves its arguments as they were; no condition. -/
import Derived.Test.YtpdjobbpaldkcaaQLawsx1
import Derived.Test.YtpdjobbpaldkcaaFtm3
import Derived.Test.YtpdjobbpaldkcaaWSized
import Derived.OpenShut
namespace Go.Proofs.Ytpdjobbpaldkcaa.PureFtmBetween
set_option linter.unusedVariables false
open Go.RowKit Go.Proofs.YtpdjobbpaldkcaaW.PrintWords Go.Proofs.YtpdjobbpaldkcaaW.PrintMore Go.Proofs.Ytpdjobbpaldkcaa.QLaws Go.Proofs.Ytpdjobbpaldkcaa.Ftm1 Go.Proofs.Ytpdjobbpaldkcaa.Ftm2 Go.Proofs.Ytpdjobbpaldkcaa.Ftm3
theorem mid_in (l : List Int) (f : Int) (h : l.length * 8 ≤ 140737488351232) (f0 : -9223372036854775808 ≤ f) (f1 : f ≤ 9223372036854775807) : ftm_Middle.f l f = some (midF l f) := by
  unfold ftm_Middle.f; rw [if_pos ⟨h, f0, f1⟩]
theorem awake_true : carillonlaw25_awake.f = some true := by
  unfold carillonlaw25_awake.f
  rw [mid_in _ _ (by decide) (by decide) (by decide), show midF [-100, 0, 4, 6, 900] 1 = (3, 0) from by decide]
  rfl
theorem mn_le (a b : Int) : mn a b ≤ a ∧ mn a b ≤ b := by unfold mn; split <;> omega
theorem mx_ge (a b : Int) : a ≤ mx a b ∧ b ≤ mx a b := by unfold mx; split <;> omega
theorem loop (g : List Int) (m : Int) (hm : ∀ lo hi : Int, (∀ x ∈ g, lo ≤ x) → (∀ x ∈ g, x ≤ hi) → lo ≤ m ∧ m ≤ hi) (hl : g.length ≤ 100) (d : Nat) : ∀ (k i : Nat) (lo hi : Int), d < k → g.length - i ≤ d → i ≤ g.length → (∀ j (h : j < g.length), j < i → lo ≤ g[j] ∧ g[j] ≤ hi) →
    carillonlaw25_FtmBetween.l0 k g m lo hi (i : Int) = some true := by
  induction d with
  | zero =>
    intro k i lo hi hk hd hi1 hall
    obtain ⟨k, rfl⟩ : ∃ q, k = q + 1 := ⟨k - 1, by omega⟩
    obtain rfl : i = g.length := by omega
    have h := hm lo hi (fun x hx => by obtain ⟨j, hj, rfl⟩ := List.getElem_of_mem hx; exact (hall j hj hj).1) (fun x hx => by obtain ⟨j, hj, rfl⟩ := List.getElem_of_mem hx; exact (hall j hj hj).2)
    simp only [carillonlaw25_FtmBetween.l0]
    rw [if_neg (by omega), if_pos h.1, if_pos h.2, awake_true]; rfl
  | succ d ih =>
    intro k i lo hi hk hd hi1 hall
    obtain ⟨k, rfl⟩ : ∃ q, k = q + 1 := ⟨k - 1, by omega⟩
    by_cases hc : i < g.length
    · simp only [carillonlaw25_FtmBetween.l0]
      rw [if_pos (by omega), if_pos (by omega), w64 (n := (i : Int) + 1) (by omega) (by omega), rd_at g i hc, show ((i : Int) + 1) = ((i + 1 : Nat) : Int) by omega]
      refine ih k (i + 1) _ _ (by omega) (by omega) (by omega) ?_
      intro j hj hji
      have h1 := mn_le lo g[i]
      have h2 := mx_ge hi g[i]
      by_cases e : j = i
      · subst e; omega
      · have := hall j hj (by omega); omega
    · exact (by
        obtain rfl : i = g.length := by omega
        have h := hm lo hi (fun x hx => by obtain ⟨j, hj, rfl⟩ := List.getElem_of_mem hx; exact (hall j hj hj).1) (fun x hx => by obtain ⟨j, hj, rfl⟩ := List.getElem_of_mem hx; exact (hall j hj hj).2)
        simp only [carillonlaw25_FtmBetween.l0]
        rw [if_neg (by omega), if_pos h.1, if_pos h.2, awake_true]; rfl)
theorem FtmBetween : carillonlaw25_FtmBetween.Pure := by
  intro g b hg1 hg2 hg3 hb1 hb2 hb3
  refine ⟨g.length + 2, ?_⟩
  have hout : ∀ x5, carillonlaw25_FtmBetween.j0 (g.length + 2) g b x5 true = some true := by
    intro x5
    rw [carillonlaw25_FtmBetween.j0, if_pos rfl, awake_true]; rfl
  unfold carillonlaw25_FtmBetween.f
  by_cases h1 : (g.length : Int) ≤ b.length
  · rw [if_pos h1]; exact hout _
  · rw [if_neg h1]
    by_cases h2 : (g.length : Int) > 100
    · rw [if_pos h2]; exact hout _
    · rw [if_neg h2]
      have h3 : ((g.length : Int) == 0) = false := by rw [beq_eq_false_iff_ne]; omega
      rw [h3, carillonlaw25_FtmBetween.j0, if_neg (by simp), Option.bind_some, if_pos (by simp; omega), Option.bind_some, if_pos (by simp; omega), List.nil_append, mid_in (b ++ g) b.length (by simp; omega) (by omega) (by omega), Option.bind_some]
      by_cases h4 : (midF (b ++ g) b.length).2 = 0
      · rw [if_pos h4, if_pos (by omega)]
        refine loop g _ (fun lo hi hlo hhi => between b g lo hi (by omega) hlo hhi h4) (by omega) g.length (g.length + 1) 0 _ _ (by omega) (by omega) (by omega) (fun j hj hji => by omega)
      · obtain ⟨e1, e2⟩ := mid_err _ _ h4
        have e3 : (midF (b ++ g) b.length).2 = 1 := by
          rw [e2]
          rw [e2] at h4
          unfold trimF at *
          rw [if_neg (by omega)] at h4 ⊢
          by_cases hk : okAll (b ++ g)
          · rw [if_pos hk, if_neg (by simp; omega)] at h4
            simp at h4
          · rw [if_neg hk]
        rw [if_neg h4, if_pos e3, if_pos e1, awake_true]; rfl

end Go.Proofs.Ytpdjobbpaldkcaa.PureFtmBetween
namespace Go.Proofs.Ytpdjobbpaldkcaa.Pure
theorem FtmBetween : QLaws.carillonlaw25_FtmBetween.Pure := PureFtmBetween.FtmBetween
end Go.Proofs.Ytpdjobbpaldkcaa.Pure
namespace Go.Proofs.Ytpdjobbpaldkcaa
abbrev PrintWords.sized_ints := @Go.Proofs.YtpdjobbpaldkcaaW.PrintWords.sized_ints
end Go.Proofs.Ytpdjobbpaldkcaa
