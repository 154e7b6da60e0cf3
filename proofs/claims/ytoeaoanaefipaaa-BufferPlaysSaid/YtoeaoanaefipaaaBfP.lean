/- A buffer in plain words. -/
import Derived.Test.YtoeaoanaefipaaaProg
import Derived.Below
import Derived.Deep.Draws
import Derived.Deep.AppendLies
import Derived.Maps.AppendAt
import Derived.OwnWalk
import Derived.Laws.BytesArg
import Derived.Laws.MakeOwn
import Derived.Laws.OwnMore
import Derived.Deep.OwnRows
import Derived.Tactics
import Derived.Lib.ConvBytes
import Derived.Laws.Slices
import Derived.WalkKit
import Derived.KernelRfl
import Derived.RowKit3
import Derived.Deep.LoopGhost
import Derived.Deep.QuietTactic
import Derived.BigQuiet
import Derived.WideLaws
import Derived.Deep.DeepCutAuto
import Derived.Deep.CutBlock
import Derived.Deep.RegionHeld3
import Derived.Laws.Rows
import Derived.Lib.AppendStr
import Derived.ArgAppend
import Derived.Laws.IdiomCopy
import Derived.OrdersHeld
import Derived.Laws.BitsLemmas
import Derived.RowKit
import Derived.RegionTactic
import Derived.ChangeAlike
import Derived.Outline
import Derived.LoopTactic
import Derived.WalkSpells
import Derived.WalkLawsBesides
import Derived.Lib.Hide
import Derived.StillTailTactics
import Derived.Deep.RegionWith
import Derived.Deep.RegionLaw
import Derived.Deep.DeepFit
import Derived.Deep.DeepMust
import Derived.Test.YtoeaoanaefipaaaWWords
import Derived.Test.YtoeaoanaefipaaaWLast
import Derived.Test.YtoeaoanaefipaaaWTab
import Derived.Test.YtoeaoanaefipaaaWFour
import Derived.Test.YtoeaoanaefipaaaWQPut
import Derived.Test.YtoeaoanaefipaaaWApart
import Derived.Test.YtoeaoanaefipaaaWArr
import Derived.Test.YtoeaoanaefipaaaWZeros
import Derived.Test.YtoeaoanaefipaaaWFoot
import Derived.Test.YtoeaoanaefipaaaWKept
import Derived.Test.YtoeaoanaefipaaaWShare
import Derived.Test.YtoeaoanaefipaaaWN
import Derived.Test.YtoeaoanaefipaaaWFootNe
import Derived.Test.YtoeaoanaefipaaaWAt
import Derived.Test.YtoeaoanaefipaaaWEqStruct
import Derived.Test.YtoeaoanaefipaaaWRepsOne
import Derived.Test.YtoeaoanaefipaaaWInv
import Derived.Test.YtoeaoanaefipaaaWInvWords
import Derived.Test.YtoeaoanaefipaaaWGuard
import Derived.Test.YtoeaoanaefipaaaWNEv
import Derived.Test.YtoeaoanaefipaaaWMore
import Derived.Test.YtoeaoanaefipaaaBf2
namespace Go.Proofs.Ytoeaoanaefipaaa.BfP
open Go.RowKit Go.Proofs.YtoeaoanaefipaaaW.PrintWords Go.Proofs.YtoeaoanaefipaaaW.PrintLast Go.Proofs.YtoeaoanaefipaaaW.PrintMore 
attribute [local go_sem] max2_int min2_int max_two min_two max_three min_three max_four min_four
set_option linter.unusedVariables false
set_option linter.unusedSimpArgs false
open Go.Proofs.Ytoeaoanaefipaaa.Bf2
def dflt : It := (0, 0, [])
def cellOf (x : It) : Int × Int := (x.1, x.2.1)
def atC (a b : Int) (x : It) : Bool := decide (x.1 = a ∧ x.2.1 = b)
theorem cnt_eq (L : List It) (a b : Int) : cnt L a b = (L.filter (atC a b)).length := rfl
theorem cnt_append (L M : List It) (a b : Int) : cnt (L ++ M) a b = cnt L a b + cnt M a b := by unfold cnt; rw [List.filter_append, List.length_append]
theorem cnt_one (x : It) (a b : Int) : cnt [x] a b = if x.1 = a ∧ x.2.1 = b then 1 else 0 := by
  unfold cnt
  by_cases h : x.1 = a ∧ x.2.1 = b
  · rw [if_pos h]; simp [h]
  · rw [if_neg h]; simp [h]
theorem cnt_cons (x : It) (L : List It) (a b : Int) : cnt (x :: L) a b = (if x.1 = a ∧ x.2.1 = b then 1 else 0) + cnt L a b := by
  rw [show x :: L = [x] ++ L from rfl, cnt_append, cnt_one]
theorem cnt_le (L : List It) (a b : Int) : cnt L a b ≤ L.length := List.length_filter_le _ _
theorem cnt_pos (L : List It) (x : It) (h : x ∈ L) : 1 ≤ cnt L x.1 x.2.1 := by
  obtain ⟨s, t, rfl⟩ := List.append_of_mem h
  rw [cnt_append, cnt_cons, if_pos ⟨rfl, rfl⟩]; omega
theorem cnt_none (L : List It) (a b : Int) (h : ∀ x ∈ L, ¬ (x.1 = a ∧ x.2.1 = b)) : cnt L a b = 0 := by
  unfold cnt
  rw [List.filter_eq_nil_iff.2 (fun x hx => by simpa using h x hx)]; rfl
def outK (k : Nat → It → Bool) (L : List It) : List It := (L.zipIdx.filter fun p => k p.2 p.1).map (·.1)
def outG (k : Nat → It → Bool) (L : List It) : List It := (L.zipIdx.filter fun p => !k p.2 p.1).map (·.1)
theorem outK_snoc (k : Nat → It → Bool) (L : List It) (x : It) : outK k (L ++ [x]) = outK k L ++ (if k L.length x then [x] else []) := by
  unfold outK
  rw [List.zipIdx_append, List.filter_append, List.map_append]
  by_cases h : k L.length x
  · simp [h]
  · simp [h]
theorem outG_snoc (k : Nat → It → Bool) (L : List It) (x : It) : outG k (L ++ [x]) = outG k L ++ (if k L.length x then [] else [x]) := by
  unfold outG
  rw [List.zipIdx_append, List.filter_append, List.map_append]
  by_cases h : k L.length x
  · simp [h]
  · simp [h]
theorem take_snoc (L : List It) (d : Nat) (hd : d < L.length) : L.take (d + 1) = L.take d ++ [L[d]] := by rw [List.take_add_one, List.getElem?_eq_getElem hd]; rfl
theorem outK_succ (k : Nat → It → Bool) (L : List It) (d : Nat) (hd : d < L.length) : outK k (L.take (d + 1)) = outK k (L.take d) ++ (if k d L[d] then [L[d]] else []) := by
  rw [take_snoc L d hd, outK_snoc, List.length_take, Nat.min_eq_left (Nat.le_of_lt hd)]
theorem outG_succ (k : Nat → It → Bool) (L : List It) (d : Nat) (hd : d < L.length) : outG k (L.take (d + 1)) = outG k (L.take d) ++ (if k d L[d] then [] else [L[d]]) := by
  rw [take_snoc L d hd, outG_snoc, List.length_take, Nat.min_eq_left (Nat.le_of_lt hd)]
theorem outK_len (k : Nat → It → Bool) (L : List It) : (outK k L).length ≤ L.length := by
  unfold outK
  rw [List.length_map]
  exact Nat.le_trans (List.length_filter_le _ _) (by simp)
theorem outG_len (k : Nat → It → Bool) (L : List It) : (outG k L).length ≤ L.length := by
  unfold outG
  rw [List.length_map]
  exact Nat.le_trans (List.length_filter_le _ _) (by simp)
theorem outK_mem (k : Nat → It → Bool) (L : List It) (x : It) (h : x ∈ outK k L) : x ∈ L := by
  unfold outK at h
  obtain ⟨p, hp, rfl⟩ := List.mem_map.1 h
  obtain ⟨hp, _⟩ := List.mem_filter.1 hp
  have := List.mem_zipIdx hp
  simp at this
  rw [this.2]
  exact List.getElem_mem _
theorem outG_mem (k : Nat → It → Bool) (L : List It) (x : It) (h : x ∈ outG k L) : x ∈ L := by
  unfold outG at h
  obtain ⟨p, hp, rfl⟩ := List.mem_map.1 h
  obtain ⟨hp, _⟩ := List.mem_filter.1 hp
  have := List.mem_zipIdx hp
  simp at this
  rw [this.2]
  exact List.getElem_mem _
theorem zip_const (f : It → Bool) (L : List It) (o : Nat) : ((L.zipIdx o).filter fun p => f p.1).map (·.1) = L.filter f := by
  induction L generalizing o with
  | nil => rfl
  | cons x L ih =>
    rw [List.zipIdx_cons, List.filter_cons, List.filter_cons]
    by_cases h : f x
    · rw [if_pos h, if_pos h, List.map_cons, ih]
    · rw [if_neg h, if_neg h, ih]
theorem outK_const (f : It → Bool) (L : List It) : outK (fun _ x => f x) L = L.filter f := zip_const f L 0
theorem outG_const (f : It → Bool) (L : List It) : outG (fun _ x => f x) L = L.filter (fun x => !f x) := zip_const (fun x => !f x) L 0
theorem zip_all (L : List It) (o : Nat) (m : Int) (h : ∀ j, o ≤ j → (j : Int) ≠ m) : ((L.zipIdx o).filter fun p => (p.2 : Int) != m).map (·.1) = L := by
  induction L generalizing o with
  | nil => rfl
  | cons x L ih =>
    rw [List.zipIdx_cons, List.filter_cons, if_pos (by simpa using h o (Nat.le_refl _)), List.map_cons, ih (o + 1) (fun j hj => h j (by omega))]
theorem zip_ne (L : List It) (o m : Nat) : ((L.zipIdx o).filter fun p => (p.2 : Int) != ((o + m : Nat) : Int)).map (·.1) = L.eraseIdx m := by
  induction L generalizing o m with
  | nil => rfl
  | cons x L ih =>
    cases m with
    | zero =>
      rw [List.zipIdx_cons, List.filter_cons, if_neg (by simp), List.eraseIdx_cons_zero]
      exact zip_all L (o + 1) _ (fun j hj => by omega)
    | succ m =>
      rw [List.zipIdx_cons, List.filter_cons, if_pos (by simp; omega), List.map_cons, List.eraseIdx_cons_succ, show o + (m + 1) = (o + 1) + m by omega, ih]
theorem outK_ne (L : List It) (m : Nat) : outK (fun i _ => (i : Int) != (m : Int)) L = L.eraseIdx m := by
  have := zip_ne L 0 m
  rw [Nat.zero_add] at this
  exact this
def newT (L : List It) (c : Int × Int) : Nat → Int
  | 0 => -1
  | d + 1 => if (L.getD d dflt).1 = c.1 ∧ (L.getD d dflt).2.1 = c.2 then (d : Int) else newT L c d
theorem newT_spec (L : List It) (c : Int × Int) (d : Nat) : (newT L c d = -1 ∧ ∀ j, j < d → ¬ ((L.getD j dflt).1 = c.1 ∧ (L.getD j dflt).2.1 = c.2)) ∨ (∃ m : Nat, m < d ∧ newT L c d = m ∧ ((L.getD m dflt).1 = c.1 ∧ (L.getD m dflt).2.1 = c.2) ∧ ∀ j, m < j → j < d → ¬ ((L.getD j dflt).1 = c.1 ∧ (L.getD j dflt).2.1 = c.2)) := by
  induction d with
  | zero => exact Or.inl ⟨rfl, fun j hj => absurd hj (Nat.not_lt_zero _)⟩
  | succ d ih =>
    unfold newT
    by_cases h : (L.getD d dflt).1 = c.1 ∧ (L.getD d dflt).2.1 = c.2
    · rw [if_pos h]
      exact Or.inr ⟨d, by omega, rfl, h, fun j h1 h2 => by omega⟩
    · rw [if_neg h]
      rcases ih with ⟨e, h2⟩ | ⟨m, h1, e, h3, h4⟩
      · refine Or.inl ⟨e, fun j hj => ?_⟩
        by_cases hjd : j = d
        · rw [hjd]; exact h
        · exact h2 j (by omega)
      · refine Or.inr ⟨m, by omega, e, h3, fun j hj hj2 => ?_⟩
        by_cases hjd : j = d
        · rw [hjd]; exact h
        · exact h4 j hj (by omega)
def stF (L : List It) (s : Int × Int) (x : It) : Int × Int := if cnt L s.1 s.2 < cnt L x.1 x.2.1 then (x.1, x.2.1) else s
def fullT (L : List It) (d : Nat) : Int × Int := (L.take d).foldl (stF L) (0, 0)
def fullF (L : List It) : Int × Int := fullT L L.length
theorem fullT_succ (L : List It) (d : Nat) (hd : d < L.length) : fullT L (d + 1) = stF L (fullT L d) L[d] := by
  unfold fullT
  rw [List.take_add_one, List.foldl_append, List.getElem?_eq_getElem hd]; rfl
theorem fullT_wf (L : List It) (hL : ∀ x ∈ L, ItOk x) (d : Nat) (hd : d ≤ L.length) : (0 ≤ (fullT L d).1 ∧ (fullT L d).1 ≤ 65535) ∧ 0 ≤ (fullT L d).2 ∧ (fullT L d).2 ≤ 256 := by
  induction d with
  | zero => simp [fullT]
  | succ d ih =>
    have hi := ih (by omega)
    rw [fullT_succ L d (by omega)]
    have hx := hL _ (List.getElem_mem (show d < L.length by omega))
    unfold stF ItOk at *
    split
    · exact ⟨⟨hx.1, hx.2.1⟩, by have := hx.2.2.1; dsimp only; omega, hx.2.2.2.1⟩
    · exact hi
theorem fullT_spec (L : List It) (hL : ∀ x ∈ L, ItOk x) (d : Nat) (hd : d ≤ L.length) : ((fullT L d = (0, 0) ∧ d = 0) ∨ ∃ x ∈ L, fullT L d = cellOf x) ∧ ∀ j (hj : j < d), cnt L (L[j]'(by omega)).1 (L[j]'(by omega)).2.1 ≤ cnt L (fullT L d).1 (fullT L d).2 := by
  induction d with
  | zero => exact ⟨Or.inl ⟨rfl, rfl⟩, fun j hj => absurd hj (Nat.not_lt_zero _)⟩
  | succ d ih =>
    obtain ⟨h1, h2⟩ := ih (by omega)
    have hdl : d < L.length := by omega
    have hm : L[d] ∈ L := List.getElem_mem hdl
    rw [fullT_succ L d hdl]
    unfold stF
    by_cases h : cnt L (fullT L d).1 (fullT L d).2 < cnt L L[d].1 L[d].2.1
    · rw [if_pos h]
      refine ⟨Or.inr ⟨_, hm, rfl⟩, fun j hj => ?_⟩
      by_cases hjd : j = d
      · subst hjd; exact Nat.le_refl _
      · exact Nat.le_trans (h2 j (by omega)) (Nat.le_of_lt h)
    · rw [if_neg h]
      refine ⟨?_, fun j hj => ?_⟩
      · rcases h1 with ⟨e, e0⟩ | h1
        · exfalso
          rw [e] at h
          have h0 : cnt L 0 0 = 0 := cnt_none L 0 0 (fun x hx hh => by have := (hL x hx).2.2.1; omega)
          have hp := cnt_pos L _ hm
          exact h (by show cnt L 0 0 < _; omega)
        · exact Or.inr h1
      · by_cases hjd : j = d
        · subst hjd; omega
        · exact h2 j (by omega)
theorem fullF_spec (L : List It) (hL : ∀ x ∈ L, ItOk x) (h0 : L ≠ []) : ∃ x ∈ L, fullF L = cellOf x ∧ ∀ y ∈ L, cnt L y.1 y.2.1 ≤ cnt L x.1 x.2.1 := by
  obtain ⟨h1, h2⟩ := fullT_spec L hL L.length (Nat.le_refl _)
  have hp : 0 < L.length := List.length_pos_iff.2 h0
  rcases h1 with ⟨_, e⟩ | ⟨x, hx, e⟩
  · omega
  · refine ⟨x, hx, e, fun y hy => ?_⟩
    obtain ⟨j, hj, rfl⟩ := List.getElem_of_mem hy
    have := h2 j hj
    rw [e] at this
    exact this
theorem newest_some (L : List It) (x : It) (hx : x ∈ L) : ∃ m : Nat, m < L.length ∧ newT L (cellOf x) L.length = m ∧ ((L.getD m dflt).1 = x.1 ∧ (L.getD m dflt).2.1 = x.2.1) ∧ ∀ j, m < j → j < L.length → ¬ ((L.getD j dflt).1 = x.1 ∧ (L.getD j dflt).2.1 = x.2.1) := by
  rcases newT_spec L (cellOf x) L.length with ⟨_, h⟩ | h
  · obtain ⟨j, hj, rfl⟩ := List.getElem_of_mem hx
    exact absurd (by rw [List.getD_eq_getElem?_getD, List.getElem?_eq_getElem hj]; exact ⟨rfl, rfl⟩) (h j hj)
  · exact h
/-- What a put comes to. -/
def putS (mo : Int) (L : List It) (lo a b : Int) (s : List Int) : Int × List It × Int :=
  if ¬ (0 ≤ a ∧ a ≤ 65535 ∧ 1 ≤ b ∧ b ≤ 256 ∧ s.length ≤ 96) then (1, L, lo)
  else if (L.any fun y => decide (y.2.2 = s)) = true then (4, L, lo)
  else if mo ≤ L.length then
    if cnt L (fullF L).1 (fullF L).2 ≤ cnt L a b then (9, L, lo + 1)
    else (0, L.eraseIdx (newT L (fullF L) L.length).toNat ++ [(a, b, s)], lo + 1)
  else (0, L ++ [(a, b, s)], lo)
theorem putS_ok (mo : Int) (L : List It) (lo a b : Int) (s : List Int) (hs : ∀ y ∈ s, 0 ≤ y ∧ y ≤ 255) (hL : ∀ x ∈ L, ItOk x) : ∀ x ∈ (putS mo L lo a b s).2.1, ItOk x := by
  unfold putS
  by_cases h : 0 ≤ a ∧ a ≤ 65535 ∧ 1 ≤ b ∧ b ≤ 256 ∧ s.length ≤ 96
  · rw [if_neg (by simpa using h)]
    have hx : ItOk (a, b, s) := ⟨h.1, h.2.1, h.2.2.1, h.2.2.2.1, h.2.2.2.2, hs⟩
    split
    · exact hL
    · split
      · split
        · exact hL
        · intro x hm
          rcases List.mem_append.1 hm with hm | hm
          · exact hL x (List.mem_of_mem_eraseIdx hm)
          · rw [List.mem_singleton.1 hm]; exact hx
      · intro x hm
        rcases List.mem_append.1 hm with hm | hm
        · exact hL x hm
        · rw [List.mem_singleton.1 hm]; exact hx
  · rw [if_pos h]; exact hL
theorem putS_len (mo : Int) (L : List It) (lo a b : Int) (s : List Int) (h1 : 1 ≤ mo) (hL : ∀ x ∈ L, ItOk x) (hl : (L.length : Int) ≤ mo) : ((putS mo L lo a b s).2.1.length : Int) ≤ mo := by
  unfold putS
  split
  · exact hl
  · split
    · exact hl
    · split
      · split
        · exact hl
        · rename_i hm _
          have hne : L ≠ [] := by intro e; subst e; simp at hm; omega
          obtain ⟨x, hx, e, _⟩ := fullF_spec L hL hne
          obtain ⟨m, hm1, hm2, _⟩ := newest_some L x hx
          show ((L.eraseIdx _ ++ [(a, b, s)]).length : Int) ≤ mo
          rw [e, hm2, List.length_append, List.length_eraseIdx]
          simp
          rw [if_pos hm1]
          omega
      · show ((L ++ [(a, b, s)]).length : Int) ≤ mo
        rw [List.length_append]; simp; omega
end Go.Proofs.Ytoeaoanaefipaaa.BfP
