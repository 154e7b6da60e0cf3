/- A flood and an order in plain words. -/
import Derived.Test.YtoeaoanaefipaaaProg
import Derived.Below
import Derived.Deep.Draws
import Derived.Deep.AppendLies
import Derived.Maps.AppendAt
import Derived.OwnWalk
import Derived.Laws.BytesArg
import Derived.Laws.MakeOwn
import Derived.Laws.OwnMore
import Derived.Deep.OwnRows
import Derived.Tactics
import Derived.Lib.ConvBytes
import Derived.Laws.Slices
import Derived.WalkKit
import Derived.KernelRfl
import Derived.RowKit3
import Derived.Deep.LoopGhost
import Derived.Deep.QuietTactic
import Derived.BigQuiet
import Derived.WideLaws
import Derived.Deep.DeepCutAuto
import Derived.Deep.CutBlock
import Derived.Deep.RegionHeld3
import Derived.Laws.Rows
import Derived.Lib.AppendStr
import Derived.ArgAppend
import Derived.Laws.IdiomCopy
import Derived.OrdersHeld
import Derived.Laws.BitsLemmas
import Derived.RowKit
import Derived.RegionTactic
import Derived.ChangeAlike
import Derived.Outline
import Derived.LoopTactic
import Derived.WalkSpells
import Derived.WalkLawsBesides
import Derived.Lib.Hide
import Derived.StillTailTactics
import Derived.Deep.RegionWith
import Derived.Deep.RegionLaw
import Derived.Deep.DeepFit
import Derived.Deep.DeepMust
import Derived.Test.YtoeaoanaefipaaaWWords
import Derived.Test.YtoeaoanaefipaaaWLast
import Derived.Test.YtoeaoanaefipaaaWTab
import Derived.Test.YtoeaoanaefipaaaWFour
import Derived.Test.YtoeaoanaefipaaaWQPut
import Derived.Test.YtoeaoanaefipaaaWApart
import Derived.Test.YtoeaoanaefipaaaWArr
import Derived.Test.YtoeaoanaefipaaaWZeros
import Derived.Test.YtoeaoanaefipaaaWFoot
import Derived.Test.YtoeaoanaefipaaaWKept
import Derived.Test.YtoeaoanaefipaaaWShare
import Derived.Test.YtoeaoanaefipaaaWN
import Derived.Test.YtoeaoanaefipaaaWFootNe
import Derived.Test.YtoeaoanaefipaaaWAt
import Derived.Test.YtoeaoanaefipaaaWEqStruct
import Derived.Test.YtoeaoanaefipaaaWRepsOne
import Derived.Test.YtoeaoanaefipaaaWInv
import Derived.Test.YtoeaoanaefipaaaWInvWords
import Derived.Test.YtoeaoanaefipaaaWGuard
import Derived.Test.YtoeaoanaefipaaaWNEv
import Derived.Test.YtoeaoanaefipaaaWMore
import Derived.Test.YtoeaoanaefipaaaBfP
namespace Go.Proofs.Ytoeaoanaefipaaa.BfQ
open Go.RowKit Go.Proofs.YtoeaoanaefipaaaW.PrintWords Go.Proofs.YtoeaoanaefipaaaW.PrintLast Go.Proofs.YtoeaoanaefipaaaW.PrintMore 
attribute [local go_sem] max2_int min2_int max_two min_two max_three min_three max_four min_four
set_option linter.unusedVariables false
set_option linter.unusedSimpArgs false
open Go.Proofs.Ytoeaoanaefipaaa.Bf2 Go.Proofs.Ytoeaoanaefipaaa.BfP
theorem split_at (L : List It) (m : Nat) (hm : m < L.length) : L = L.take m ++ L.getD m dflt :: L.drop (m + 1) ∧ L.eraseIdx m = L.take m ++ L.drop (m + 1) := by
  refine ⟨?_, List.eraseIdx_eq_take_drop_succ _ _⟩
  rw [List.getD_eq_getElem?_getD, List.getElem?_eq_getElem hm]
  show L = L.take m ++ L[m] :: L.drop (m + 1)
  rw [List.getElem_cons_drop, List.take_append_drop]
theorem erase_other (L : List It) (m : Nat) (hm : m < L.length) (a b : Int) (h : ¬ ((L.getD m dflt).1 = a ∧ (L.getD m dflt).2.1 = b)) : (L.eraseIdx m).filter (atC a b) = L.filter (atC a b) := by
  obtain ⟨e1, e2⟩ := split_at L m hm
  rw [e2]
  conv => rhs; rw [e1]
  rw [List.filter_append, List.filter_append, List.filter_cons, if_neg (by unfold atC; simpa using h)]
theorem erase_last (L : List It) (m : Nat) (hm : m < L.length) (a b : Int) (h : (L.getD m dflt).1 = a ∧ (L.getD m dflt).2.1 = b) (hl : ∀ j, m < j → j < L.length → ¬ ((L.getD j dflt).1 = a ∧ (L.getD j dflt).2.1 = b)) : L.filter (atC a b) = (L.eraseIdx m).filter (atC a b) ++ [L.getD m dflt] := by
  obtain ⟨e1, e2⟩ := split_at L m hm
  rw [e2]
  have hd : (L.drop (m + 1)).filter (atC a b) = [] := by
    rw [List.filter_eq_nil_iff]
    intro x hx
    obtain ⟨j, hj, rfl⟩ := List.getElem_of_mem hx
    rw [List.length_drop] at hj
    have := hl (m + 1 + j) (by omega) (by omega)
    rw [List.getD_eq_getElem?_getD, List.getElem?_eq_getElem (show m + 1 + j < L.length by omega)] at this
    rw [List.getElem_drop]
    unfold atC
    simpa using this
  conv => lhs; rw [e1]
  rw [List.filter_append, List.filter_append, List.filter_cons, if_pos (by unfold atC; simpa using h), hd, List.append_nil]
def fl (k : Nat) : List It := (List.range k).map fun (i : Nat) => ((0, 1, [1, (i : Int)]) : It)
theorem fl_len (k : Nat) : (fl k).length = k := by unfold fl; simp
theorem fl_succ (k : Nat) : fl (k + 1) = fl k ++ [(0, 1, [1, (k : Int)])] := by unfold fl; rw [List.range_succ, List.map_append]; rfl
theorem fl_mem (k : Nat) (x : It) (h : x ∈ fl k) : x.1 = 0 ∧ x.2.1 = 1 ∧ ∃ i : Nat, i < k ∧ x.2.2 = [1, (i : Int)] := by
  unfold fl at h
  obtain ⟨i, hi, rfl⟩ := List.mem_map.1 h
  exact ⟨rfl, rfl, i, List.mem_range.1 hi, rfl⟩
theorem fl_at (k i : Nat) (h : i < k) : (fl k).getD i dflt = (0, 1, [1, (i : Int)]) := by
  unfold fl
  rw [List.getD_eq_getElem?_getD, List.getElem?_map, List.getElem?_range h]; rfl
theorem fl_put (mo lo : Int) (k : Nat) (h : (k : Int) < mo) : putS mo (fl k) lo 0 1 [1, (k : Int)] = (0, fl (k + 1), lo) := by
  unfold putS
  rw [if_neg (by simp), if_neg (by
    rw [List.any_eq_true]
    rintro ⟨x, hx, hh⟩
    obtain ⟨_, _, i, hi, e⟩ := fl_mem k x hx
    rw [e] at hh
    simp at hh
    omega), if_neg (by rw [fl_len]; omega), fl_succ]
theorem flood_step (mo lo : Int) (k : Nat) (F : List It) (s : List Int) (hF : ∀ x ∈ F, x.1 = 0 ∧ x.2.1 = 2) (hok : ∀ x ∈ fl k ++ F, ItOk x) (hk : 2 * (k : Int) ≤ mo) (hk1 : 1 ≤ k) : ∃ F', (∀ x ∈ F', x.1 = 0 ∧ x.2.1 = 2) ∧ (putS mo (fl k ++ F) lo 0 2 s).2.1 = fl k ++ F' := by
  have hc2 : cnt (fl k ++ F) 0 2 = F.length := by
    rw [cnt_append, cnt_none (fl k) 0 2 (fun x hx hh => by have := (fl_mem k x hx).2.1; omega), Nat.zero_add]
    unfold cnt
    rw [List.filter_eq_self.2 (fun x hx => by simpa using hF x hx)]
  have hc1 : cnt (fl k ++ F) 0 1 = k := by
    rw [cnt_append, cnt_none F 0 1 (fun x hx hh => by have := (hF x hx).2; omega)]
    unfold cnt
    rw [List.filter_eq_self.2 (fun x hx => by have := fl_mem k x hx; simp [this.1, this.2.1]), fl_len]; rfl
  unfold putS
  split
  · exact ⟨F, hF, rfl⟩
  · split
    · exact ⟨F, hF, rfl⟩
    · split
      · rename_i hm
        split
        · exact ⟨F, hF, rfl⟩
        · rename_i hn
          exfalso
          rw [List.length_append, fl_len] at hm
          obtain ⟨x, hx, e, _⟩ := fullF_spec (fl k ++ F) hok (by intro e; have := congrArg List.length e; rw [List.length_append, fl_len] at this; simp at this; omega)
          rw [e] at hn
          unfold cellOf at hn
          dsimp only at hn
          rcases List.mem_append.1 hx with hx | hx
          · have := fl_mem k x hx
            rw [this.1, this.2.1, hc1, hc2] at hn
            omega
          · have := hF x hx
            rw [this.1, this.2] at hn
            omega
      · exact ⟨F ++ [(0, 2, s)], fun x hx => by
          rcases List.mem_append.1 hx with hx | hx
          · exact hF x hx
          · rw [List.mem_singleton.1 hx]; exact ⟨rfl, rfl⟩, by show fl k ++ F ++ [(0, 2, s)] = _; rw [List.append_assoc]⟩
theorem flood_take (k : Nat) (F : List It) (hF : ∀ x ∈ F, x.1 = 0 ∧ x.2.1 = 2) : (fl k ++ F).filter (atC 0 1) = fl k := by
  rw [List.filter_append, List.filter_eq_self.2 (fun x hx => by have := fl_mem k x hx; unfold atC; simp [this.1, this.2.1]), List.filter_eq_nil_iff.2 (fun x hx => by have := hF x hx; unfold atC; simp [this.1, this.2]), List.append_nil]
/-- What holds while an order is kept. -/
def OrdI (e i : Int) (want : List (List Int)) (L : List It) : Prop :=
  (∀ x ∈ L, (x.1 = e ∨ x.1 = e + 1) ∧ x.2.1 = i) ∧ L.length ≤ 64 ∧ ∃ m, m ≤ want.length ∧ (L.filter (atC e i)).map (fun x => x.2.2) = want.take m ∧ (m = want.length ∨ (64 ≤ L.length ∧ cnt L (e + 1) i ≤ cnt L e i))
theorem two_cells (e i : Int) (L : List It) (h : ∀ x ∈ L, (x.1 = e ∨ x.1 = e + 1) ∧ x.2.1 = i) : cnt L e i + cnt L (e + 1) i = L.length := by
  induction L with
  | nil => rfl
  | cons x L ih =>
    rw [cnt_cons, cnt_cons, List.length_cons, ← ih (fun y hy => h y (List.mem_cons_of_mem _ hy))]
    obtain ⟨h1 | h1, h2⟩ := h x (List.mem_cons_self ..)
    · rw [if_pos ⟨h1, h2⟩, if_neg (by omega)]; omega
    · rw [if_neg (by omega), if_pos ⟨h1, h2⟩]; omega
theorem OrdI.start (e i : Int) : OrdI e i [] [] := ⟨fun x hx => absurd hx (List.not_mem_nil), by simp, 0, by simp, rfl, Or.inl rfl⟩
theorem OrdI.step1 (e i lo : Int) (want : List (List Int)) (L : List It) (s : List Int) (h : OrdI e i want L) (hok : ∀ x ∈ L, ItOk x) :
    ((putS 64 L lo e i s).1 = 0 ∧ (∀ y ∈ want, y ≠ s) ∧ OrdI e i (want ++ [s]) (putS 64 L lo e i s).2.1) ∨ ((putS 64 L lo e i s).1 ≠ 0 ∧ OrdI e i want (putS 64 L lo e i s).2.1) := by
  obtain ⟨h1, hl, m, hm, hf, hd⟩ := id h
  have ht := two_cells e i L h1
  unfold putS
  split
  · exact Or.inr ⟨by simp, h⟩
  · split
    · exact Or.inr ⟨by simp, h⟩
    · rename_i hany
      have hnew : m = want.length → ∀ y ∈ want, y ≠ s := by
        intro e1 y hy e2
        rw [e1, List.take_length] at hf
        rw [← hf] at hy
        obtain ⟨x, hx, e3⟩ := List.mem_map.1 hy
        apply hany
        rw [List.any_eq_true]
        exact ⟨x, (List.mem_filter.1 hx).1, by simp; rw [e3, e2]⟩
      split
      · rename_i hmo
        split
        · exact Or.inr ⟨by simp, h⟩
        · rename_i hn
          obtain ⟨x, hx, ex, hmax⟩ := fullF_spec L hok (by intro e1; subst e1; simp at hmo)
          rw [ex] at hn
          unfold cellOf at hn
          dsimp only at hn
          have hxc := h1 x hx
          have hxe : x.1 = e + 1 := by
            rcases hxc.1 with h2 | h2
            · rw [h2, hxc.2] at hn; omega
            · exact h2
          rw [hxe, hxc.2] at hn
          have hme : m = want.length := by rcases hd with h2 | h2; exact h2; omega
          obtain ⟨j, hj, ej, hjc, hjl⟩ := newest_some L x hx
          refine Or.inl ⟨rfl, hnew hme, ?_⟩
          show OrdI e i (want ++ [s]) (L.eraseIdx (newT L (fullF L) L.length).toNat ++ [(e, i, s)])
          rw [ex, ej, Int.toNat_natCast]
          refine ⟨fun y hy => ?_, by rw [List.length_append, List.length_eraseIdx, if_pos hj]; simp; omega, want.length + 1, by simp, ?_, Or.inl (by simp)⟩
          · rcases List.mem_append.1 hy with hy | hy
            · exact h1 y (List.mem_of_mem_eraseIdx hy)
            · rw [List.mem_singleton.1 hy]; exact ⟨Or.inl rfl, rfl⟩
          · rw [List.filter_append, erase_other L j hj e i (by rw [hjc.1, hxe]; omega), List.map_append, hf, hme, List.take_length, List.take_of_length_le (by simp)]
            congr 1
            simp [atC]
      · rename_i hmo
        have hme : m = want.length := by rcases hd with h2 | h2; exact h2; omega
        refine Or.inl ⟨rfl, hnew hme, ?_⟩
        show OrdI e i (want ++ [s]) (L ++ [(e, i, s)])
        refine ⟨fun y hy => ?_, by rw [List.length_append]; simp; omega, want.length + 1, by simp, ?_, Or.inl (by simp)⟩
        · rcases List.mem_append.1 hy with hy | hy
          · exact h1 y hy
          · rw [List.mem_singleton.1 hy]; exact ⟨Or.inl rfl, rfl⟩
        · rw [List.filter_append, List.map_append, hf, hme, List.take_length, List.take_of_length_le (by simp)]
          congr 1
          simp [atC]
theorem OrdI.step2 (e i lo : Int) (want : List (List Int)) (L : List It) (s : List Int) (h : OrdI e i want L) (hok : ∀ x ∈ L, ItOk x) : OrdI e i want (putS 64 L lo (e + 1) i s).2.1 := by
  obtain ⟨h1, hl, m, hm, hf, hd⟩ := id h
  have ht := two_cells e i L h1
  unfold putS
  split
  · exact h
  · split
    · exact h
    · split
      · rename_i hmo
        split
        · exact h
        · rename_i hn
          obtain ⟨x, hx, ex, hmax⟩ := fullF_spec L hok (by intro e1; subst e1; simp at hmo)
          rw [ex] at hn
          unfold cellOf at hn
          dsimp only at hn
          have hxc := h1 x hx
          have hxe : x.1 = e := by
            rcases hxc.1 with h2 | h2
            · exact h2
            · rw [h2, hxc.2] at hn; omega
          rw [hxe, hxc.2] at hn
          obtain ⟨j, hj, ej, hjc, hjl⟩ := newest_some L x hx
          show OrdI e i want (L.eraseIdx (newT L (fullF L) L.length).toNat ++ [(e + 1, i, s)])
          rw [ex, ej, Int.toNat_natCast]
          rw [hxe, hxc.2] at hjc hjl
          have hla := erase_last L j hj e i hjc hjl
          have hl1 := congrArg List.length hla
          rw [List.length_append] at hl1
          have hlm := congrArg List.length hf
          rw [List.length_map, List.length_take, Nat.min_eq_left hm] at hlm
          have hca : cnt L e i = (L.filter (atC e i)).length := rfl
          have hcb : (L.eraseIdx j).filter (atC (e + 1) i) = L.filter (atC (e + 1) i) := erase_other L j hj (e + 1) i (by rw [hjc.1]; omega)
          replace hl1 : (L.filter (atC e i)).length = ((L.eraseIdx j).filter (atC e i)).length + 1 := hl1
          refine ⟨fun y hy => ?_, by rw [List.length_append, List.length_eraseIdx, if_pos hj]; simp; omega, m - 1, by omega, ?_, Or.inr ⟨by rw [List.length_append, List.length_eraseIdx, if_pos hj]; simp; omega, ?_⟩⟩
          · rcases List.mem_append.1 hy with hy | hy
            · exact h1 y (List.mem_of_mem_eraseIdx hy)
            · rw [List.mem_singleton.1 hy]; exact ⟨Or.inr rfl, rfl⟩
          · rw [List.filter_append, show [((e + 1, i, s) : It)].filter (atC e i) = [] by simp [atC]; omega, List.append_nil]
            have hfe : (L.eraseIdx j).filter (atC e i) = (L.filter (atC e i)).dropLast := by rw [hla, List.dropLast_concat]
            rw [hfe, List.map_dropLast, hf, List.dropLast_eq_take, List.length_take, Nat.min_eq_left hm, List.take_take, Nat.min_eq_left (by omega)]
          · rw [cnt_append, cnt_append, cnt_one, cnt_one, if_pos ⟨rfl, rfl⟩, if_neg (by show ¬ (e + 1 = e ∧ i = i); omega), cnt_eq, hcb, cnt_eq, ← cnt_eq]
            omega
      · rename_i hmo
        have hme : m = want.length := by rcases hd with h2 | h2; exact h2; omega
        show OrdI e i want (L ++ [(e + 1, i, s)])
        refine ⟨fun y hy => ?_, by rw [List.length_append]; simp; omega, m, hm, ?_, Or.inl hme⟩
        · rcases List.mem_append.1 hy with hy | hy
          · exact h1 y hy
          · rw [List.mem_singleton.1 hy]; exact ⟨Or.inr rfl, rfl⟩
        · rw [List.filter_append, show [((e + 1, i, s) : It)].filter (atC e i) = [] by simp [atC]; omega, List.append_nil, hf]
end Go.Proofs.Ytoeaoanaefipaaa.BfQ
