/- Plain facts of the middle of numbers. -/
import Derived.Test.YtpdjobbpaldkcaaFtm2
namespace Go.Proofs.Ytpdjobbpaldkcaa.Ftm3
open Go.RowKit Go.Proofs.YtpdjobbpaldkcaaW.PrintWords Go.Proofs.Ytpdjobbpaldkcaa.Ftm1 Go.Proofs.Ytpdjobbpaldkcaa.Ftm2
set_option linter.unusedVariables false
theorem half (x : Int) : x - 1 ≤ 2 * x.tdiv 2 ∧ 2 * x.tdiv 2 ≤ x + 1 := by
  by_cases h : 0 ≤ x
  · rw [Int.tdiv_eq_ediv_of_nonneg h]; omega
  · have e : x.tdiv 2 = -((-x).tdiv 2) := by rw [Int.neg_tdiv]; omega
    rw [e, Int.tdiv_eq_ediv_of_nonneg (by omega)]; omega
theorem half_neg (x : Int) : (-x).tdiv 2 = -(x.tdiv 2) := Int.neg_tdiv x 2
theorem cnt_le (s : List Int) (hs : Sorted s) (c : Int) (i : Nat) (hi : i < s.length) (h : i < s.countP (fun x => decide (x ≤ c))) : s[i] ≤ c := by
  rcases Int.lt_or_le c s[i] with hc | hc
  · exfalso
    rw [← List.take_append_drop i s, List.countP_append] at h
    have h1 : (s.drop i).countP (fun x => decide (x ≤ c)) = 0 := by
      rw [List.countP_eq_zero]
      intro y hy
      obtain ⟨j, hj, rfl⟩ := List.getElem_of_mem hy
      rw [List.getElem_drop]
      have : s[i] ≤ s[i + j]'(by simp at hj; omega) := by
        rcases Nat.eq_zero_or_pos j with rfl | hj0
        · simp
        · exact List.pairwise_iff_getElem.1 hs i (i + j) hi (by simp at hj; omega) (by omega)
      simp; omega
    have h2 := List.countP_le_length (p := fun x => decide (x ≤ c)) (l := s.take i)
    rw [List.length_take] at h2
    omega
  · exact hc
theorem cnt_ge (s : List Int) (hs : Sorted s) (c : Int) (i : Nat) (hi : i < s.length) (h : s.length - 1 - i < s.countP (fun x => decide (c ≤ x))) : c ≤ s[i] := by
  rcases Int.lt_or_le s[i] c with hc | hc
  · exfalso
    rw [← List.take_append_drop (i + 1) s, List.countP_append] at h
    have h1 : (s.take (i + 1)).countP (fun x => decide (c ≤ x)) = 0 := by
      rw [List.countP_eq_zero]
      intro y hy
      obtain ⟨j, hj, rfl⟩ := List.getElem_of_mem hy
      rw [List.getElem_take]
      have hj2 : j < i + 1 := by simp at hj; omega
      have : s[j]'(by omega) ≤ s[i] := by
        by_cases e : j = i
        · subst e; omega
        · exact List.pairwise_iff_getElem.1 hs j i (by omega) hi (by omega)
      simp; omega
    have h2 := List.countP_le_length (p := fun x => decide (c ≤ x)) (l := s.drop (i + 1))
    have h3 : (s.drop (i + 1)).length = s.length - (i + 1) := List.length_drop
    have h4 : (s.take (i + 1) ++ s.drop (i + 1)).length = s.length := by rw [List.take_append_drop]
    omega
  · exact hc
theorem rd_mid (s : List Int) (a b i : Nat) (h : b + i < a) : rd ((s.take a).drop b) (i : Int) = rd s ((b + i : Nat) : Int) := by
  unfold rd
  rw [Int.toNat_natCast, Int.toNat_natCast, List.getD_eq_getElem?_getD, List.getD_eq_getElem?_getD, List.getElem?_drop, List.getElem?_take, if_pos h]
theorem mid_at (l : List Int) (f : Nat) (h : okAll l) (hf : f < l.length - f) : midF l f = ((rd (srt l) (f : Int) + rd (srt l) ((l.length - 1 - f : Nat) : Int)).tdiv 2, 0) := by
  have ht : trimF l f = (((srt l).take (l.length - f)).drop f, 0) := by
    unfold trimF
    rw [if_neg (by omega), if_pos h, if_neg (by omega)]
    rw [show ((l.length : Int) - (f : Int)).toNat = l.length - f by omega, Int.toNat_natCast]
  unfold midF
  rw [ht]
  simp only [if_true]
  have hl : (((srt l).take (l.length - f)).drop f).length = l.length - f - f := by rw [List.length_drop, List.length_take, srt_length]; omega
  rw [hl]
  have e0 := rd_mid (srt l) (l.length - f) f 0 (by omega)
  have e1 := rd_mid (srt l) (l.length - f) f (l.length - f - f - 1) (by omega)
  rw [show (((l.length - f - f : Nat) : Int) - 1) = ((l.length - f - f - 1 : Nat) : Int) by omega, e1, show (0 : Int) = ((0 : Nat) : Int) from rfl, e0]
  rw [show f + (l.length - f - f - 1) = l.length - 1 - f by omega]
  rfl
theorem mid_err (l : List Int) (f : Int) (h : (midF l f).2 ≠ 0) : (midF l f).1 = 0 ∧ (midF l f).2 = (trimF l f).2 := by
  unfold midF at *
  split
  · rename_i e; rw [if_pos e] at h; simp at h
  · exact ⟨rfl, rfl⟩
theorem mid_okF (l : List Int) (f : Int) (h : (midF l f).2 = 0) : 0 ≤ f ∧ okAll l ∧ f < (l.length : Int) - f := by
  have h2 : (trimF l f).2 = 0 := by
    unfold midF at h
    split at h
    · rename_i e; exact e
    · exact h
  obtain ⟨a, b, c, _⟩ := trim_ok l f h2
  exact ⟨a, b, c⟩
theorem cnt_app_le (a g : List Int) (c : Int) : (srt (a ++ g)).countP (fun x => decide (x ≤ c)) = a.countP (fun x => decide (x ≤ c)) + g.countP (fun x => decide (x ≤ c)) := by
  rw [(srt_props (a ++ g)).2.countP_eq, List.countP_append]
theorem cnt_app_ge (a g : List Int) (c : Int) : (srt (a ++ g)).countP (fun x => decide (c ≤ x)) = a.countP (fun x => decide (c ≤ x)) + g.countP (fun x => decide (c ≤ x)) := by
  rw [(srt_props (a ++ g)).2.countP_eq, List.countP_append]
theorem cnt_all_le (g : List Int) (c : Int) (h : ∀ x ∈ g, x ≤ c) : g.countP (fun x => decide (x ≤ c)) = g.length := by
  rw [List.countP_eq_length]; intro x hx; simpa using h x hx
theorem cnt_all_ge (g : List Int) (c : Int) (h : ∀ x ∈ g, c ≤ x) : g.countP (fun x => decide (c ≤ x)) = g.length := by
  rw [List.countP_eq_length]; intro x hx; simpa using h x hx
theorem rd_s (s : List Int) (i : Nat) (h : i < s.length) : rd s (i : Int) = s[i] := rd_at s i h
/-- The places that are left lie between the good ones; and about each number that has enough good ones on either side. -/
theorem low_hi (a g : List Int) (lo hi : Int) (hf : a.length < g.length) (hlo : ∀ x ∈ g, lo ≤ x) (hhi : ∀ x ∈ g, x ≤ hi) :
    lo ≤ rd (srt (a ++ g)) ((a.length : Nat) : Int) ∧ rd (srt (a ++ g)) (((a ++ g).length - 1 - a.length : Nat) : Int) ≤ hi ∧ rd (srt (a ++ g)) ((a.length : Nat) : Int) ≤ rd (srt (a ++ g)) (((a ++ g).length - 1 - a.length : Nat) : Int) := by
  have hs := (srt_props (a ++ g)).1
  have hl := srt_length (a ++ g)
  have hla : (a ++ g).length = a.length + g.length := List.length_append
  rw [rd_s _ _ (by omega), rd_s _ _ (by omega)]
  refine ⟨?_, ?_, ?_⟩
  · refine cnt_ge _ hs lo _ (by omega) ?_
    rw [cnt_app_ge, cnt_all_ge g lo hlo]; omega
  · refine cnt_le _ hs hi _ (by omega) ?_
    rw [cnt_app_le, cnt_all_le g hi hhi]; omega
  · by_cases e : a.length = (a ++ g).length - 1 - a.length
    · simp only [← e]; omega
    · exact List.pairwise_iff_getElem.1 hs _ _ (by omega) (by omega) (by omega)
theorem about (a g : List Int) (c : Int) (hf : 2 * a.length < g.length) (h1 : a.length < g.countP (fun x => decide (x ≤ c))) (h2 : a.length < g.countP (fun x => decide (c ≤ x))) :
    rd (srt (a ++ g)) ((a.length : Nat) : Int) ≤ c ∧ c ≤ rd (srt (a ++ g)) (((a ++ g).length - 1 - a.length : Nat) : Int) := by
  have hs := (srt_props (a ++ g)).1
  have hl := srt_length (a ++ g)
  have hla : (a ++ g).length = a.length + g.length := List.length_append
  rw [rd_s _ _ (by omega), rd_s _ _ (by omega)]
  refine ⟨cnt_le _ hs c _ (by omega) (by rw [cnt_app_le]; omega), cnt_ge _ hs c _ (by omega) (by rw [cnt_app_ge]; omega)⟩
theorem between (a g : List Int) (lo hi : Int) (hf : a.length < g.length) (hlo : ∀ x ∈ g, lo ≤ x) (hhi : ∀ x ∈ g, x ≤ hi) (h : (midF (a ++ g) a.length).2 = 0) : lo ≤ (midF (a ++ g) a.length).1 ∧ (midF (a ++ g) a.length).1 ≤ hi := by
  obtain ⟨_, hok, _⟩ := mid_okF _ _ h
  have hla : (a ++ g).length = a.length + g.length := List.length_append
  rw [mid_at _ _ hok (by omega)]
  obtain ⟨h1, h2, h3⟩ := low_hi a g lo hi hf hlo hhi
  have := half (rd (srt (a ++ g)) ((a.length : Nat) : Int) + rd (srt (a ++ g)) (((a ++ g).length - 1 - a.length : Nat) : Int))
  dsimp only
  omega
/-- The number in the good ones' own middle place. -/
theorem pivot (g : List Int) (f : Nat) (hf : 2 * f < g.length) : ∃ c, f < g.countP (fun x => decide (x ≤ c)) ∧ f < g.countP (fun x => decide (c ≤ x)) := by
  have hs := (srt_props g).1
  have hl := srt_length g
  obtain ⟨c, hc⟩ : ∃ c, (srt g)[f]'(by omega) = c := ⟨_, rfl⟩
  refine ⟨c, ?_, ?_⟩
  · rw [← (srt_props g).2.countP_eq, ← List.take_append_drop (f + 1) (srt g), List.countP_append]
    have : ((srt g).take (f + 1)).countP (fun x => decide (x ≤ c)) = ((srt g).take (f + 1)).length := by
      rw [List.countP_eq_length]
      intro y hy
      obtain ⟨j, hj, rfl⟩ := List.getElem_of_mem hy
      rw [List.getElem_take, ← hc]
      have hj2 : j < f + 1 := by simp at hj; omega
      by_cases e : j = f
      · subst e; simp
      · simpa using List.pairwise_iff_getElem.1 hs j f (by omega) (by omega) (by omega)
    rw [this, List.length_take]; omega
  · rw [← (srt_props g).2.countP_eq, ← List.take_append_drop f (srt g), List.countP_append]
    have : ((srt g).drop f).countP (fun x => decide (c ≤ x)) = ((srt g).drop f).length := by
      rw [List.countP_eq_length]
      intro y hy
      obtain ⟨j, hj, rfl⟩ := List.getElem_of_mem hy
      rw [List.getElem_drop, ← hc]
      rcases Nat.eq_zero_or_pos j with rfl | h0
      · simp
      · simpa using List.pairwise_iff_getElem.1 hs f (f + j) (by omega) (by simp at hj; omega) (by omega)
    rw [this, List.length_drop]; omega
theorem nearer (a b g : List Int) (lo hi : Int) (hab : b.length = a.length) (hf : 2 * a.length < g.length) (hlo : ∀ x ∈ g, lo ≤ x) (hhi : ∀ x ∈ g, x ≤ hi) (h : (midF (a ++ g) a.length).2 = 0) (h' : (midF (b ++ g) a.length).2 = 0) :
    2 * ((midF (a ++ g) a.length).1 - (midF (b ++ g) a.length).1) ≤ hi - lo + 2 ∧ 2 * ((midF (b ++ g) a.length).1 - (midF (a ++ g) a.length).1) ≤ hi - lo + 2 := by
  obtain ⟨c, c1, c2⟩ := pivot g a.length hf
  obtain ⟨_, hok, _⟩ := mid_okF _ _ h
  rw [← hab] at h' ⊢
  obtain ⟨_, hok', _⟩ := mid_okF _ _ h'
  have hla : (a ++ g).length = a.length + g.length := List.length_append
  have hlb : (b ++ g).length = b.length + g.length := List.length_append
  rw [mid_at (b ++ g) b.length hok' (by omega)]
  rw [hab, mid_at (a ++ g) a.length hok (by omega), ← hab]
  obtain ⟨p1, p2, p3⟩ := low_hi a g lo hi (by omega) hlo hhi
  obtain ⟨q1, q2, q3⟩ := low_hi b g lo hi (by omega) hlo hhi
  obtain ⟨r1, r2⟩ := about a g c hf c1 c2
  obtain ⟨s1, s2⟩ := about b g c (by omega) (by omega) (by omega)
  rw [← hab] at p1 p2 p3 r1 r2
  have e1 := half (rd (srt (a ++ g)) ((b.length : Nat) : Int) + rd (srt (a ++ g)) (((a ++ g).length - 1 - b.length : Nat) : Int))
  have e2 := half (rd (srt (b ++ g)) ((b.length : Nat) : Int) + rd (srt (b ++ g)) (((b ++ g).length - 1 - b.length : Nat) : Int))
  dsimp only
  omega
theorem srt_of_perm (l m : List Int) (h : List.Perm l m) : srt l = srt m :=
  List.Perm.eq_of_pairwise (le := fun a b : Int => a ≤ b) (fun a b _ _ h1 h2 => Int.le_antisymm h1 h2) (srt_props l).1 (srt_props m).1 ((srt_props l).2.trans (h.trans (srt_props m).2.symm))
theorem okAll_perm (l m : List Int) (h : List.Perm l m) : okAll l ↔ okAll m := ⟨fun x y hy => x y (h.mem_iff.2 hy), fun x y hy => x y (h.mem_iff.1 hy)⟩
theorem mid_perm (l m : List Int) (f : Int) (h : List.Perm l m) : midF l f = midF m f := by
  have ht : trimF l f = trimF m f := by
    unfold trimF
    rw [srt_of_perm l m h, h.length_eq]
    by_cases e : okAll l
    · rw [if_pos e, if_pos ((okAll_perm l m h).1 e)]
    · rw [if_neg e, if_neg (fun x => e ((okAll_perm l m h).2 x))]
  unfold midF; rw [ht]
theorem srt_neg (l : List Int) : srt (l.map (fun x => -x)) = ((srt l).map (fun x => -x)).reverse := by
  refine List.Perm.eq_of_pairwise (le := fun a b : Int => a ≤ b) (fun a b _ _ h1 h2 => Int.le_antisymm h1 h2) (srt_props _).1 ?_ ((srt_props _).2.trans ((((srt_props l).2.map (fun x => -x)).symm).trans (List.reverse_perm _).symm))
  rw [List.pairwise_reverse, List.pairwise_map]
  exact (srt_props l).1.imp (fun h => by omega)
/-- All turned about: the middle is turned about. -/
theorem mid_neg (l : List Int) (f : Int) (h : (midF l f).2 = 0) : midF (l.map (fun x => -x)) f = (-(midF l f).1, 0) := by
  obtain ⟨h0, hok, hlt⟩ := mid_okF l f h
  obtain ⟨n, rfl⟩ := Int.eq_ofNat_of_zero_le h0
  have hok2 : okAll (l.map (fun x => -x)) := by
    intro y hy
    obtain ⟨x, hx, rfl⟩ := List.mem_map.1 hy
    have := hok x hx; omega
  have hl : (l.map (fun x => -x)).length = l.length := List.length_map _
  have hsl := srt_length l
  rw [mid_at l n hok (by omega), mid_at _ n hok2 (by omega), srt_neg, hl]
  have e1 : rd (((srt l).map (fun x => -x)).reverse) (n : Int) = -rd (srt l) ((l.length - 1 - n : Nat) : Int) := by
    rw [rd_s _ _ (by simp; omega), rd_s _ _ (by omega), List.getElem_reverse, List.getElem_map]
    simp [hsl]
  have e2 : rd (((srt l).map (fun x => -x)).reverse) ((l.length - 1 - n : Nat) : Int) = -rd (srt l) (n : Int) := by
    rw [rd_s _ _ (by simp; omega), rd_s _ _ (by omega), List.getElem_reverse, List.getElem_map]
    have : ((srt l).map (fun x => -x)).length - 1 - (l.length - 1 - n) = n := by rw [List.length_map, hsl]; omega
    simp only [this]
  rw [e1, e2, show -rd (srt l) ((l.length - 1 - n : Nat) : Int) + -rd (srt l) (n : Int) = -(rd (srt l) (n : Int) + rd (srt l) ((l.length - 1 - n : Nat) : Int)) by omega, half_neg]
theorem mid_bd (l : List Int) (f : Int) : -1099511627776 ≤ (midF l f).1 ∧ (midF l f).1 ≤ 1099511627776 := by
  by_cases h : (midF l f).2 = 0
  · obtain ⟨h0, hok, hlt⟩ := mid_okF l f h
    obtain ⟨n, rfl⟩ := Int.eq_ofNat_of_zero_le h0
    rw [mid_at l n hok (by omega)]
    have hb : ∀ i : Nat, i < l.length → -1099511627776 ≤ rd (srt l) (i : Int) ∧ rd (srt l) (i : Int) ≤ 1099511627776 := fun i hi => by
      have hsl := srt_length l
      rw [rd_s _ _ (by omega)]
      exact hok _ ((srt_props l).2.mem_iff.1 (List.getElem_mem (by omega)))
    have b1 := hb n (by omega)
    have b2 := hb (l.length - 1 - n) (by omega)
    have := half (rd (srt l) (n : Int) + rd (srt l) ((l.length - 1 - n : Nat) : Int))
    dsimp only
    omega
  · rw [(mid_err l f h).1]; omega
end Go.Proofs.Ytpdjobbpaldkcaa.Ftm3
