/- For every good and bad numbers carillonlaw25.FtmNearer returns true and leaves its arguments as they were; no condition. -/
import Derived.Test.YtpdjobbpaldkcaaQLawsx2
import Derived.Test.YtpdjobbpaldkcaaFtm3
import Derived.Test.YtpdjobbpaldkcaaWSized
import Derived.OpenShut
namespace Go.Proofs.Ytpdjobbpaldkcaa.PureFtmNearer
set_option linter.unusedVariables false
open Go.RowKit Go.Proofs.YtpdjobbpaldkcaaW.PrintWords Go.Proofs.YtpdjobbpaldkcaaW.PrintMore Go.Proofs.Ytpdjobbpaldkcaa.QLaws Go.Proofs.Ytpdjobbpaldkcaa.Ftm1 Go.Proofs.Ytpdjobbpaldkcaa.Ftm2 Go.Proofs.Ytpdjobbpaldkcaa.Ftm3
theorem mid_in (l : List Int) (f : Int) (h : l.length * 8 ≤ 140737488351232) (f0 : -9223372036854775808 ≤ f) (f1 : f ≤ 9223372036854775807) : ftm_Middle.f l f = some (midF l f) := by
  unfold ftm_Middle.f; rw [if_pos ⟨h, f0, f1⟩]
theorem awake_true : carillonlaw25_awake.f = some true := by
  unfold carillonlaw25_awake.f
  rw [mid_in _ _ (by decide) (by decide) (by decide), show midF [-100, 0, 4, 6, 900] 1 = (3, 0) from by decide]
  rfl
theorem mn_le (a b : Int) : mn a b ≤ a ∧ mn a b ≤ b := by unfold mn; split <;> omega
theorem mx_ge (a b : Int) : a ≤ mx a b ∧ b ≤ mx a b := by unfold mx; split <;> omega
theorem loop (g : List Int) (m n : Int) (hm : ∀ lo hi : Int, (∀ x ∈ g, lo ≤ x) → (∀ x ∈ g, x ≤ hi) → 2 * (m - n) ≤ hi - lo + 2 ∧ 2 * (n - m) ≤ hi - lo + 2) (hg : ∀ x ∈ g, -1099511627776 ≤ x ∧ x ≤ 1099511627776)
    (m0 : -1099511627776 ≤ m) (m1 : m ≤ 1099511627776) (n0 : -1099511627776 ≤ n) (n1 : n ≤ 1099511627776) (hl : g.length ≤ 100) (d : Nat) : ∀ (k i : Nat) (lo hi : Int), d < k → g.length - i ≤ d → i ≤ g.length → -1099511627776 ≤ lo → lo ≤ hi → hi ≤ 1099511627776 → (∀ j (h : j < g.length), j < i → lo ≤ g[j] ∧ g[j] ≤ hi) →
    carillonlaw25_FtmNearer.l0 k g m n lo hi (i : Int) = some true := by
  have fin : ∀ (k : Nat) (lo hi : Int), -1099511627776 ≤ lo → lo ≤ hi → hi ≤ 1099511627776 → (∀ j (h : j < g.length), j < g.length → lo ≤ g[j] ∧ g[j] ≤ hi) → carillonlaw25_FtmNearer.l0 (k + 1) g m n lo hi (g.length : Int) = some true := by
    intro k lo hi l0 l1 l2 hall
    have h := hm lo hi (fun x hx => by obtain ⟨j, hj, rfl⟩ := List.getElem_of_mem hx; exact (hall j hj hj).1) (fun x hx => by obtain ⟨j, hj, rfl⟩ := List.getElem_of_mem hx; exact (hall j hj hj).2)
    have hmx : mx m n - mn m n ≤ 2199023255552 ∧ 0 ≤ mx m n - mn m n ∧ 2 * (mx m n - mn m n) ≤ hi - lo + 2 := by unfold mx mn; split <;> split <;> omega
    simp only [carillonlaw25_FtmNearer.l0]
    rw [if_neg (by omega), w64 (n := mx m n - mn m n) (by omega) (by omega), w64 (n := 2 * (mx m n - mn m n)) (by omega) (by omega), w64 (n := hi - lo) (by omega) (by omega), w64 (n := hi - lo + 2) (by omega) (by omega), if_pos hmx.2.2, awake_true]; rfl
  induction d with
  | zero =>
    intro k i lo hi hk hd hi1 l0 l1 l2 hall
    obtain ⟨k, rfl⟩ : ∃ q, k = q + 1 := ⟨k - 1, by omega⟩
    obtain rfl : i = g.length := by omega
    exact fin k lo hi l0 l1 l2 hall
  | succ d ih =>
    intro k i lo hi hk hd hi1 l0 l1 l2 hall
    obtain ⟨k, rfl⟩ : ∃ q, k = q + 1 := ⟨k - 1, by omega⟩
    by_cases hc : i < g.length
    · simp only [carillonlaw25_FtmNearer.l0]
      rw [if_pos (by omega), if_pos (by omega), w64 (n := (i : Int) + 1) (by omega) (by omega), rd_at g i hc, show ((i : Int) + 1) = ((i + 1 : Nat) : Int) by omega]
      have h1 := mn_le lo g[i]
      have h2 := mx_ge hi g[i]
      have h3 := hg g[i] (List.getElem_mem hc)
      have h4 : -1099511627776 ≤ mn lo g[i] ∧ mx hi g[i] ≤ 1099511627776 := by unfold mn mx; split <;> split <;> omega
      refine ih k (i + 1) _ _ (by omega) (by omega) (by omega) h4.1 (by omega) h4.2 ?_
      intro j hj hji
      by_cases e : j = i
      · subst e; omega
      · have := hall j hj (by omega); omega
    · obtain rfl : i = g.length := by omega
      exact fin k lo hi l0 l1 l2 hall
theorem FtmNearer : carillonlaw25_FtmNearer.Pure := by
  intro g a b hg1 hg2 hg3 ha1 ha2 ha3 hb1 hb2 hb3
  refine ⟨g.length + 3, ?_⟩
  have hout : ∀ x7, carillonlaw25_FtmNearer.j0 (g.length + 3) g a b x7 true = some true := by
    intro x7
    rw [carillonlaw25_FtmNearer.j0, if_pos rfl, awake_true]; rfl
  have hout1 : ∀ m n, carillonlaw25_FtmNearer.j1 (g.length + 2) g m n true = some true := by
    intro m n
    rw [carillonlaw25_FtmNearer.j1, if_pos rfl, awake_true]; rfl
  unfold carillonlaw25_FtmNearer.f
  by_cases h0 : (b.length : Int) = a.length
  · rw [if_pos h0]
    have hw : wrap64 (2 * (a.length : Int)) = 2 * a.length := w64 (by omega) (by omega)
    rw [hw]
    by_cases h1 : (g.length : Int) ≤ 2 * a.length
    · rw [if_pos h1]; exact hout _
    · rw [if_neg h1]
      by_cases h2 : (g.length : Int) > 100
      · rw [decide_eq_true h2]; exact hout _
      · rw [decide_eq_false h2, carillonlaw25_FtmNearer.j0, if_neg (by simp), Option.bind_some, if_pos (by simp; omega), Option.bind_some, if_pos (by simp; omega), List.nil_append, mid_in (a ++ g) a.length (by simp; omega) (by omega) (by omega), Option.bind_some, Option.bind_some, if_pos (by simp; omega), Option.bind_some, if_pos (by simp; omega), List.nil_append, mid_in (b ++ g) a.length (by simp; omega) (by omega) (by omega), Option.bind_some]
        by_cases h3 : (midF (a ++ g) a.length).2 = 0
        · rw [if_pos h3]
          by_cases h4 : (midF (b ++ g) a.length).2 = 0
          · have e : ((midF (b ++ g) a.length).2 != 0) = false := by rw [bne_eq_false_iff_eq]; exact h4
            rw [e, carillonlaw25_FtmNearer.j1, if_neg (by simp), if_pos (by omega)]
            have hok := (mid_okF _ _ h3).2.1
            have hg : ∀ x ∈ g, -1099511627776 ≤ x ∧ x ≤ 1099511627776 := fun x hx => hok x (by simp [hx])
            have hr := rd_at g 0 (by omega)
            have hr2 := hg g[0] (List.getElem_mem (by omega))
            refine loop g _ _ (fun lo hi hlo hhi => nearer a b g lo hi (by omega) (by omega) hlo hhi h3 h4) hg (mid_bd _ _).1 (mid_bd _ _).2 (mid_bd _ _).1 (mid_bd _ _).2 (by omega) g.length (g.length + 1) 0 _ _ (by omega) (by omega) (by omega) ?_ (Int.le_refl _) ?_ (fun j hj hji => by omega)
            · rw [show (0 : Int) = ((0 : Nat) : Int) from rfl, hr]; omega
            · rw [show (0 : Int) = ((0 : Nat) : Int) from rfl, hr]; omega
          · have e : ((midF (b ++ g) a.length).2 != 0) = true := by rw [bne_iff_ne]; exact h4
            rw [e]; exact hout1 _ _
        · rw [if_neg h3]; exact hout1 _ _
  · rw [if_neg h0]; exact hout _

end Go.Proofs.Ytpdjobbpaldkcaa.PureFtmNearer
namespace Go.Proofs.Ytpdjobbpaldkcaa.Pure
theorem FtmNearer : QLaws.carillonlaw25_FtmNearer.Pure := PureFtmNearer.FtmNearer
end Go.Proofs.Ytpdjobbpaldkcaa.Pure
namespace Go.Proofs.Ytpdjobbpaldkcaa
abbrev PrintWords.sized_ints := @Go.Proofs.YtpdjobbpaldkcaaW.PrintWords.sized_ints
end Go.Proofs.Ytpdjobbpaldkcaa
