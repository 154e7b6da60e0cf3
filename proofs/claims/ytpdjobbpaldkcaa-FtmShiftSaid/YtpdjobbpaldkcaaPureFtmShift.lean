/- For every numbers, count and turn carillonlaw25.FtmShift returns true and leaves its arguments as they were; no condition. -/
import Derived.Test.YtpdjobbpaldkcaaQLawsx2
import Derived.Test.YtpdjobbpaldkcaaFtm3
import Derived.Test.YtpdjobbpaldkcaaWSized
import Derived.OpenShut
namespace Go.Proofs.Ytpdjobbpaldkcaa.PureFtmShift
set_option linter.unusedVariables false
open Go.RowKit Go.Proofs.YtpdjobbpaldkcaaW.PrintWords Go.Proofs.YtpdjobbpaldkcaaW.PrintMore Go.Proofs.Ytpdjobbpaldkcaa.QLaws Go.Proofs.Ytpdjobbpaldkcaa.Ftm1 Go.Proofs.Ytpdjobbpaldkcaa.Ftm2 Go.Proofs.Ytpdjobbpaldkcaa.Ftm3
theorem mid_in (l : List Int) (f : Int) (h : l.length * 8 ≤ 140737488351232) (f0 : -9223372036854775808 ≤ f) (f1 : f ≤ 9223372036854775807) : ftm_Middle.f l f = some (midF l f) := by
  unfold ftm_Middle.f; rw [if_pos ⟨h, f0, f1⟩]
theorem awake_true : carillonlaw25_awake.f = some true := by
  unfold carillonlaw25_awake.f
  rw [mid_in _ _ (by decide) (by decide) (by decide), show midF [-100, 0, 4, 6, 900] 1 = (3, 0) from by decide]
  rfl
theorem mn_le (a b : Int) : mn a b ≤ a ∧ mn a b ≤ b := by unfold mn; split <;> omega
theorem mx_ge (a b : Int) : a ≤ mx a b ∧ b ≤ mx a b := by unfold mx; split <;> omega
def turn (l : List Int) (k m : Nat) : List Int := (List.range m).map (fun i => rd l (((i + k) % l.length : Nat) : Int))
theorem turn_succ (l : List Int) (k m : Nat) : turn l k (m + 1) = turn l k m ++ [rd l (((m + k) % l.length : Nat) : Int)] := by simp [turn, List.range_succ]
theorem turn_eq (l : List Int) (k : Nat) (h0 : 0 < l.length) : turn l k l.length = l.drop (k % l.length) ++ l.take (k % l.length) := by
  have hr : k % l.length < l.length := Nat.mod_lt _ h0
  refine List.ext_getElem (by simp [turn]; omega) ?_
  intro i h1 h2
  have hi : i < l.length := by simpa [turn] using h1
  have hm : (i + k) % l.length < l.length := Nat.mod_lt _ h0
  simp only [turn, List.getElem_map, List.getElem_range]
  rw [rd_at l _ hm, List.getElem_append]
  have e : (i + k) % l.length = if i + k % l.length < l.length then i + k % l.length else i + k % l.length - l.length := by
    rw [Nat.add_mod, Nat.mod_eq_of_lt hi]
    split
    · exact Nat.mod_eq_of_lt (by assumption)
    · rw [Nat.mod_eq_sub_mod (by omega), Nat.mod_eq_of_lt (by omega)]
  split
  · rename_i hlt
    rw [List.getElem_drop]
    have hlt2 : i < l.length - k % l.length := by simpa using hlt
    congr 1
    rw [e, if_pos (by omega)]; omega
  · rename_i hlt
    rw [List.getElem_take]
    have hlt2 : ¬ i < l.length - k % l.length := by simpa using hlt
    congr 1
    rw [e, if_neg (by omega)]; simp; omega
theorem turn_perm (l : List Int) (k : Nat) : List.Perm (turn l k l.length) l := by
  by_cases h0 : l.length = 0
  · rw [List.length_eq_zero_iff.1 h0]; simp [turn]
  · rw [turn_eq l k (by omega)]
    exact (List.perm_append_comm).trans (by rw [List.take_append_drop])
def mneg (l : List Int) : List Int := l.map (fun x => wrap64 (-(mx x (-4611686018427387904))))
theorem mneg_snoc (l : List Int) (i : Nat) (h : i < l.length) : mneg (l.take (i + 1)) = mneg (l.take i) ++ [wrap64 (-(mx (rd l i) (-4611686018427387904)))] := by
  rw [List.take_succ_eq_append_getElem h, rd_at l i h, mneg, List.map_append]; rfl
theorem mneg_ok (l : List Int) (h : okAll l) : mneg l = l.map (fun x => -x) := by
  refine List.map_congr_left (fun x hx => ?_)
  have := h x hx
  have e : mx x (-4611686018427387904) = x := by unfold mx; split <;> omega
  rw [e, w64 (by omega) (by omega)]
theorem mneg_not (l : List Int) (hw : ∀ x ∈ l, (Lit.int .i64 x).wf = true) (h : ¬ okAll l) : ¬ okAll (mneg l) := by
  intro h2
  apply h
  intro x hx
  have hb := bounds_i64 (hw x hx)
  have := h2 _ (List.mem_map.2 ⟨x, hx, rfl⟩)
  have e : -4611686018427387904 ≤ mx x (-4611686018427387904) ∧ mx x (-4611686018427387904) ≤ 9223372036854775807 ∧ x ≤ mx x (-4611686018427387904) ∧ (mx x (-4611686018427387904) = x ∨ mx x (-4611686018427387904) = -4611686018427387904) := by unfold mx; split <;> omega
  rw [w64 (by omega) (by omega)] at this
  omega
theorem minus_err (l : List Int) (f : Int) (hw : ∀ x ∈ l, (Lit.int .i64 x).wf = true) (h : (midF l f).2 ≠ 0) : (midF (mneg l) f).2 ≠ 0 := by
  intro h2
  obtain ⟨h0, hok, hlt⟩ := mid_okF _ _ h2
  have hl : (mneg l).length = l.length := List.length_map _
  by_cases ho : okAll l
  · apply h
    obtain ⟨n, rfl⟩ := Int.eq_ofNat_of_zero_le h0
    rw [mid_at l n ho (by omega)]
  · exact mneg_not l hw ho hok
theorem right_in (m : Int) (h0 : -1099511627776 ≤ m) (h1 : m ≤ 1099511627776) : ival_Right.f m m = some true := by
  unfold ival_Right.f; rw [if_pos (Int.le_refl _), if_pos (by omega), decide_eq_true h1]
theorem fin (l : List Int) (f k : Int) (hw : ∀ x ∈ l, (Lit.int .i64 x).wf = true) (q : Nat) (f0 : -9223372036854775808 ≤ f) (f1 : f ≤ 9223372036854775807) (hl : l.length ≤ 100) (m : Nat) :
    carillonlaw25_FtmShift.l0 (m + 1) l f k (midF l f).1 (midF l f).2 (turn l q l.length) (mneg l) (l.length : Int) = some true := by
  have ht : (turn l q l.length).length = l.length := by simp [turn]
  have hn : (mneg l).length = l.length := List.length_map _
  simp only [carillonlaw25_FtmShift.l0]
  rw [if_neg (by omega), mid_in _ _ (by omega) f0 f1, mid_in _ _ (by omega) f0 f1, mid_perm _ _ f (turn_perm l q)]
  simp only [Option.bind_some, if_true]
  have hb := mid_bd l f
  by_cases h : (midF l f).2 = 0
  · have hm := mid_neg l f h
    rw [← mneg_ok l (mid_okF l f h).2.1] at hm
    rw [if_pos h, hm]
    simp only [if_true]
    rw [if_pos (w64 (by omega) (by omega)).symm, right_in _ hb.1 hb.2, awake_true]; rfl
  · have h2 := minus_err l f hw h
    rw [if_neg h]
    simp only [if_neg h2]
    rw [right_in _ hb.1 hb.2, awake_true]
    simp
theorem loop (l : List Int) (f k : Int) (q : Nat) (hk : k = q) (hq : q ≤ 255) (hw : ∀ x ∈ l, (Lit.int .i64 x).wf = true) (f0 : -9223372036854775808 ≤ f) (f1 : f ≤ 9223372036854775807) (hl : l.length ≤ 100) (d : Nat) : ∀ (m i : Nat), d < m → l.length - i ≤ d → i ≤ l.length →
    carillonlaw25_FtmShift.l0 m l f k (midF l f).1 (midF l f).2 (turn l q i) (mneg (l.take i)) (i : Int) = some true := by
  induction d with
  | zero =>
    intro m i hm hd hi
    obtain ⟨m, rfl⟩ : ∃ z, m = z + 1 := ⟨m - 1, by omega⟩
    obtain rfl : i = l.length := by omega
    rw [List.take_length]
    exact fin l f k hw q f0 f1 hl m
  | succ d ih =>
    intro m i hm hd hi
    obtain ⟨m, rfl⟩ : ∃ z, m = z + 1 := ⟨m - 1, by omega⟩
    by_cases hc : i < l.length
    · have hml : (i + q) % l.length < l.length := Nat.mod_lt _ (by omega)
      have e1 : Int.tmod (wrap64 ((i : Int) + wrap64 k)) (l.length : Int) = (((i + q) % l.length : Nat) : Int) := by
        rw [w64 (n := k) (by omega) (by omega), w64 (n := (i : Int) + k) (by omega) (by omega), hk, Int.tmod_eq_emod_of_nonneg (by omega)]
        norm_cast
      simp only [carillonlaw25_FtmShift.l0]
      have ht : (turn l q i).length = i := by simp [turn]
      have hn : (mneg (l.take i)).length = i := by rw [mneg, List.length_map, List.length_take]; omega
      rw [if_pos (by omega), if_neg (by omega), e1, if_pos (by omega), if_pos (by omega), if_pos (by omega), if_pos (by omega), if_pos (by omega), ← turn_succ, ← mneg_snoc l i hc, w64 (n := (i : Int) + 1) (by omega) (by omega), show ((i : Int) + 1) = ((i + 1 : Nat) : Int) by omega]
      exact ih m (i + 1) (by omega) (by omega) (by omega)
    · obtain rfl : i = l.length := by omega
      rw [List.take_length]
      exact fin l f k hw q f0 f1 hl m
theorem FtmShift : carillonlaw25_FtmShift.Pure := by
  intro l f k hl1 hl2 hw hf hk
  have hfb := bounds_i64 hf
  have hkb := bounds_u8 hk
  refine ⟨l.length + 1, ?_⟩
  unfold carillonlaw25_FtmShift.f
  by_cases h : (l.length : Int) > 100
  · rw [if_pos h, awake_true]; rfl
  · rw [if_neg h, mid_in l f (by omega) hfb.1 hfb.2, Option.bind_some]
    exact loop l f k k.toNat (by omega) (by omega) hw hfb.1 hfb.2 (by omega) l.length (l.length + 1) 0 (by omega) (by omega) (by omega)

end Go.Proofs.Ytpdjobbpaldkcaa.PureFtmShift
namespace Go.Proofs.Ytpdjobbpaldkcaa.Pure
theorem FtmShift : QLaws.carillonlaw25_FtmShift.Pure := PureFtmShift.FtmShift
end Go.Proofs.Ytpdjobbpaldkcaa.Pure
namespace Go.Proofs.Ytpdjobbpaldkcaa
abbrev PrintWords.sized_ints := @Go.Proofs.YtpdjobbpaldkcaaW.PrintWords.sized_ints
end Go.Proofs.Ytpdjobbpaldkcaa
