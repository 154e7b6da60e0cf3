/- Where most of any intervals meet: the plain law. -/
import Derived.Test.YtfaikkhnlioajaaProg
import Derived.Below
import Derived.Deep.Draws
import Derived.Deep.AppendLies
import Derived.Maps.AppendAt
import Derived.OwnWalk
import Derived.Laws.BytesArg
import Derived.Laws.MakeOwn
import Derived.Laws.OwnMore
import Derived.Deep.OwnRows
import Derived.Tactics
import Derived.Lib.ConvBytes
import Derived.Laws.Slices
import Derived.WalkKit
import Derived.KernelRfl
import Derived.RowKit3
import Derived.Deep.LoopGhost
import Derived.Deep.QuietTactic
import Derived.BigQuiet
import Derived.WideLaws
import Derived.Deep.DeepCutAuto
import Derived.Deep.CutBlock
import Derived.Deep.RegionHeld3
import Derived.Laws.Rows
import Derived.Lib.AppendStr
import Derived.ArgAppend
import Derived.Laws.IdiomCopy
import Derived.OrdersHeld
import Derived.Laws.BitsLemmas
import Derived.RowKit
import Derived.RegionTactic
import Derived.ChangeAlike
import Derived.Outline
import Derived.LoopTactic
import Derived.WalkSpells
import Derived.WalkLawsBesides
import Derived.Lib.Hide
import Derived.StillTailTactics
import Derived.Deep.RegionWith
import Derived.Deep.RegionLaw
import Derived.Deep.DeepFit
import Derived.Deep.DeepMust
namespace Go.Proofs.Ytfaikkhnlioajaa.Iv2
open Go.RowKit 
set_option linter.unusedVariables false
set_option linter.unusedSimpArgs false

def MT : Int := 1099511627776
def rt (x : Int × Int) : Bool := decide (x.1 ≤ x.2 ∧ -MT ≤ x.1 ∧ x.2 ≤ MT)
def ends1 (x : Int × Int) : List (Int × Int) := if rt x = true then [(x.1, 1), (x.2, -1)] else []
def ends (L : List (Int × Int)) : List (Int × Int) := L.flatMap ends1
def hold (x : Int × Int) (v : Int) : Bool := rt x && decide (x.1 ≤ v) && decide (v ≤ x.2)
def cnt (L : List (Int × Int)) (v : Int) : Int := ((L.filter fun x => hold x v).length : Int)
def sm (p : List (Int × Int)) : Int := (p.map (·.2)).sum
def le (x y : Int × Int) : Prop := x.1 < y.1 ∨ (x.1 = y.1 ∧ x.2 ≥ y.2)
instance (x y : Int × Int) : Decidable (le x y) := by unfold le; infer_instance
structure St where
  lo : Int
  hi : Int
  many : Int
  now : Int
  op : Bool
def stp (s : St) (e : Int × Int) : St := if s.now + e.2 > s.many then ⟨e.1, 0, s.now + e.2, s.now + e.2, true⟩ else if e.2 < 0 ∧ s.op = true then ⟨s.lo, e.1, s.many, s.now + e.2, false⟩ else ⟨s.lo, s.hi, s.many, s.now + e.2, s.op⟩
def sweep (E : List (Int × Int)) : St := E.foldl stp ⟨0, 0, 0, 0, false⟩
theorem sm_nil : sm [] = 0 := rfl
theorem sm_cons (e : Int × Int) (p : List (Int × Int)) : sm (e :: p) = e.2 + sm p := by simp [sm]
theorem sm_append (p q : List (Int × Int)) : sm (p ++ q) = sm p + sm q := by
  induction p with
  | nil => simp [sm_nil]
  | cons e p ih => rw [List.cons_append, sm_cons, sm_cons, ih]; omega
theorem sm_perm {p q : List (Int × Int)} (h : p.Perm q) : sm p = sm q := by
  induction h with
  | nil => rfl
  | cons x _ ih => rw [sm_cons, sm_cons, ih]
  | swap x y l => rw [sm_cons, sm_cons, sm_cons, sm_cons]; omega
  | trans _ _ h1 h2 => rw [h1, h2]
/-- What the sweep knows. -/
def Good (p : List (Int × Int)) (s : St) : Prop :=
  s.now = sm p ∧ (∀ q r, p = q ++ r → sm q ≤ s.many) ∧
  ((s.many = 0 ∧ s.op = false ∧ s.lo = 0 ∧ s.hi = 0) ∨
    (0 < s.many ∧ ∃ q r, p = q ++ (s.lo, 1) :: r ∧ sm q + 1 = s.many ∧ (∀ q1 r1, q = q1 ++ r1 → sm q1 < s.many) ∧
      ((r = [] ∧ s.op = true ∧ s.hi = 0) ∨ (s.op = false ∧ ∃ r', r = (s.hi, -1) :: r'))))
theorem split_last {p q r : List (Int × Int)} {e : Int × Int} (h : p ++ [e] = q ++ r) : (r = [] ∧ q = p ++ [e]) ∨ ∃ r1, r = r1 ++ [e] ∧ p = q ++ r1 := by
  rcases List.eq_nil_or_concat r with h1 | ⟨r1, x, h1⟩
  · left; subst h1; exact ⟨rfl, by simpa using h.symm⟩
  · right
    subst h1
    rw [List.concat_eq_append, ← List.append_assoc] at h
    have := List.append_inj' h rfl
    obtain ⟨h2, h3⟩ := this
    have h4 : e = x := by simpa using h3
    subst h4
    exact ⟨r1, List.concat_eq_append, h2⟩
theorem good_step {p : List (Int × Int)} {s : St} {e : Int × Int} (he : e.2 = 1 ∨ e.2 = -1) (h : Good p s) : Good (p ++ [e]) (stp s e) := by
  obtain ⟨h1, h2, h3⟩ := h
  have hs : sm (p ++ [e]) = s.now + e.2 := by rw [sm_append, sm_cons, sm_nil, h1]; omega
  have hp : sm p ≤ s.many := h2 p [] (by simp)
  have h0 : 0 ≤ s.many := h2 [] p rfl
  unfold stp
  split
  · rename_i hn
    have he1 : e.2 = 1 := by omega
    have hm : s.now = s.many := by omega
    refine ⟨hs.symm, ?_, Or.inr ⟨by simp only; omega, p, [], ?_, ?_, ?_, Or.inl ⟨rfl, rfl, rfl⟩⟩⟩
    · intro q r hqr
      simp only
      rcases split_last hqr with ⟨_, hq⟩ | ⟨r1, _, hq⟩
      · rw [hq, hs]; omega
      · have := h2 q r1 hq; omega
    · simp only; rw [show e = (e.1, 1) from Prod.ext rfl he1]
    · simp only; omega
    · intro q1 r1 hq
      have := h2 q1 r1 hq
      simp only; omega
  · rename_i hn
    have hall : ∀ q r, p ++ [e] = q ++ r → sm q ≤ s.many := by
      intro q r hqr
      rcases split_last hqr with ⟨_, hq⟩ | ⟨r1, _, hq⟩
      · rw [hq, hs]; omega
      · exact h2 q r1 hq
    split
    · rename_i hc
      refine ⟨hs.symm, hall, ?_⟩
      rcases h3 with ⟨_, ho, _⟩ | ⟨hm, q, r, hq, hsq, hf, hr⟩
      · exact absurd hc.2 (by rw [ho]; decide)
      · rcases hr with ⟨hr, _, _⟩ | ⟨ho, _⟩
        · subst hr
          refine Or.inr ⟨hm, q, [e], by rw [hq]; simp, hsq, hf, Or.inr ⟨rfl, [], ?_⟩⟩
          rw [show e = (e.1, -1) from Prod.ext rfl (by omega)]
        · exact absurd hc.2 (by rw [ho]; decide)
    · rename_i hc
      refine ⟨hs.symm, hall, ?_⟩
      rcases h3 with h3 | ⟨hm, q, r, hq, hsq, hf, hr⟩
      · exact Or.inl h3
      · refine Or.inr ⟨hm, q, r ++ [e], by rw [hq]; simp, hsq, hf, ?_⟩
        rcases hr with ⟨hr, ho, hh⟩ | ⟨ho, r', hr⟩
        · exfalso
          subst hr
          have : sm p = sm q + 1 := by rw [hq, sm_append, sm_cons, sm_nil]; omega
          have : ¬ e.2 < 0 := fun h => hc ⟨h, ho⟩
          omega
        · exact Or.inr ⟨ho, r' ++ [e], by rw [hr]; rfl⟩
theorem good_fold : ∀ (s2 p : List (Int × Int)) (s : St), (∀ e ∈ s2, e.2 = 1 ∨ e.2 = -1) → Good p s → Good (p ++ s2) (s2.foldl stp s)
  | [], p, s, _, h => by simpa using h
  | e :: s2, p, s, he, h => by
    have := good_fold s2 (p ++ [e]) (stp s e) (fun x hx => he x (List.mem_cons_of_mem _ hx)) (good_step (he e (List.mem_cons_self ..)) h)
    simpa using this
theorem good_sweep (E : List (Int × Int)) (he : ∀ e ∈ E, e.2 = 1 ∨ e.2 = -1) : Good E (sweep E) := by
  have := good_fold E [] ⟨0, 0, 0, 0, false⟩ he ⟨rfl, fun q r h => by
    have : q = [] := by cases q with | nil => rfl | cons a q => cases h
    subst this; exact Int.le_refl 0, Or.inl ⟨rfl, rfl, rfl, rfl⟩⟩
  exact this
/-- Those at or ahead of v. -/
def D (v : Int) (e : Int × Int) : Bool := decide (e.1 < v ∨ (e.1 = v ∧ e.2 = 1))
theorem sm_D (L : List (Int × Int)) (v : Int) : sm ((ends L).filter (D v)) = cnt L v := by
  induction L with
  | nil => rfl
  | cons x L ih =>
    have e1 : ends (x :: L) = ends1 x ++ ends L := rfl
    rw [e1, List.filter_append, sm_append, ih]
    have e2 : cnt (x :: L) v = (if hold x v = true then 1 else 0) + cnt L v := by
      unfold cnt
      rw [List.filter_cons]
      split
      · rw [List.length_cons]; omega
      · omega
    rw [e2]
    congr 1
    unfold ends1 hold
    by_cases hr : rt x = true
    · rw [if_pos hr, hr]
      have hr' : x.1 ≤ x.2 := by have := hr; unfold rt at this; exact (of_decide_eq_true this).1
      by_cases h1 : x.1 ≤ v
      · have d1 : D v (x.1, 1) = true := by unfold D; simp; omega
        by_cases h2 : v ≤ x.2
        · have d2 : D v (x.2, -1) = false := by unfold D; simp; omega
          rw [List.filter_cons, if_pos d1, List.filter_cons, if_neg (by rw [d2]; decide)]
          simp [h1, h2, sm]
        · have d2 : D v (x.2, -1) = true := by unfold D; simp; omega
          rw [List.filter_cons, if_pos d1, List.filter_cons, if_pos d2]
          simp [h1, h2, sm]
      · have d1 : D v (x.1, 1) = false := by unfold D; simp; omega
        have d2 : D v (x.2, -1) = false := by unfold D; simp; omega
        rw [List.filter_cons, if_neg (by rw [d1]; decide), List.filter_cons, if_neg (by rw [d2]; decide)]
        simp [h1, sm]
    · rw [if_neg hr]
      simp [hr, sm]
theorem sm_ends (L : List (Int × Int)) : sm (ends L) = 0 := by
  induction L with
  | nil => rfl
  | cons x L ih =>
    have e1 : ends (x :: L) = ends1 x ++ ends L := rfl
    rw [e1, sm_append, ih]
    unfold ends1
    split <;> simp [sm]
theorem ends_one (L : List (Int × Int)) : ∀ e ∈ ends L, e.2 = 1 ∨ e.2 = -1 := by
  intro e he
  obtain ⟨x, _, hx⟩ := List.mem_flatMap.mp he
  unfold ends1 at hx
  split at hx
  · simp at hx; rcases hx with rfl | rfl <;> simp
  · simp at hx
theorem mem_lo {L : List (Int × Int)} {x : Int × Int} (h : x ∈ L) (hr : rt x = true) : (x.1, (1 : Int)) ∈ ends L := List.mem_flatMap.mpr ⟨x, h, by unfold ends1; rw [if_pos hr]; simp⟩
theorem mem_hi {L : List (Int × Int)} {x : Int × Int} (h : x ∈ L) (hr : rt x = true) : (x.2, (-1 : Int)) ∈ ends L := List.mem_flatMap.mpr ⟨x, h, by unfold ends1; rw [if_pos hr]; simp⟩
theorem hi_of {L : List (Int × Int)} {h : Int} (hm : (h, (-1 : Int)) ∈ ends L) : ∃ x ∈ L, rt x = true ∧ x.2 = h := by
  obtain ⟨x, hx, he⟩ := List.mem_flatMap.mp hm
  unfold ends1 at he
  split at he
  · rename_i hr; simp at he; exact ⟨x, hx, hr, he.symm⟩
  · simp at he
theorem lo_of {L : List (Int × Int)} {h : Int} (hm : (h, (1 : Int)) ∈ ends L) : ∃ x ∈ L, rt x = true ∧ x.1 = h := by
  obtain ⟨x, hx, he⟩ := List.mem_flatMap.mp hm
  unfold ends1 at he
  split at he
  · rename_i hr; simp at he; exact ⟨x, hx, hr, he.symm⟩
  · simp at he
theorem D_down {v : Int} {x y : Int × Int} (h : le x y) (hy : D v y = true) (h1 : y.2 ≤ 1) (h2 : x.2 ≤ 1) : D v x = true := by
  unfold D at *; unfold le at h; have := of_decide_eq_true hy; exact decide_eq_true (by omega)
theorem filter_prefix (v : Int) : ∀ (E : List (Int × Int)), E.Pairwise le → (∀ e ∈ E, e.2 = 1 ∨ e.2 = -1) → ∃ r, E = E.filter (D v) ++ r
  | [], _, _ => ⟨[], rfl⟩
  | e :: E, hp, ho => by
    obtain ⟨h1, h2⟩ := List.pairwise_cons.mp hp
    by_cases he : D v e = true
    · obtain ⟨r, hr⟩ := filter_prefix v E h2 (fun x hx => ho x (List.mem_cons_of_mem _ hx))
      refine ⟨r, ?_⟩
      rw [List.filter_cons, if_pos he, List.cons_append, ← hr]
    · refine ⟨e :: E, ?_⟩
      have : (e :: E).filter (D v) = [] := by
        rw [List.filter_eq_nil_iff]
        intro x hx hd
        rcases List.mem_cons.mp hx with rfl | hx
        · exact he hd
        · exact he (D_down (h1 x hx) hd (by rcases ho x (List.mem_cons_of_mem _ hx) with h | h <;> omega) (by rcases ho e (List.mem_cons_self ..) with h | h <;> omega))
      rw [this]; rfl
/-- What is told of any intervals: where most of them meet. -/
def Spec (L : List (Int × Int)) (lo hi many : Int) : Prop :=
  (lo = 0 ∧ hi = 0 ∧ many = 0 ∧ ∀ x ∈ L, rt x = false) ∨
  (0 < many ∧ many = cnt L lo ∧ (∃ x ∈ L, rt x = true ∧ x.1 = lo) ∧ (∀ x ∈ L, rt x = true → cnt L x.1 = many → lo ≤ x.1) ∧
    (∃ x ∈ L, hold x lo = true ∧ x.2 = hi) ∧ (∀ x ∈ L, hold x lo = true → hi ≤ x.2))
theorem sweep_spec (L E : List (Int × Int)) (hE : E.Perm (ends L)) (hs : E.Pairwise le) : Spec L (sweep E).lo (sweep E).hi (sweep E).many ∧ ∀ v, cnt L v ≤ (sweep E).many := by
  have h1 : ∀ e ∈ E, e.2 = 1 ∨ e.2 = -1 := fun e he => ends_one L e (hE.mem_iff.mp he)
  obtain ⟨_, hb, hc⟩ := good_sweep E h1
  have hcnt : ∀ v, sm (E.filter (D v)) = cnt L v := fun v => by rw [← sm_D]; exact sm_perm (hE.filter _)
  have hmax : ∀ v, cnt L v ≤ (sweep E).many := fun v => by
    obtain ⟨r, hr⟩ := filter_prefix v E hs h1
    rw [← hcnt v]; exact hb _ r hr
  refine ⟨?_, hmax⟩
  generalize sweep E = s at *
  rcases hc with ⟨hm, _, hlo, hhi⟩ | ⟨hm, q, r, hq, hsq, hf, hr⟩
  · left
    refine ⟨hlo, hhi, hm, fun x hx => ?_⟩
    cases hrx : rt x with
    | false => rfl
    | true =>
      exfalso
      have h2 := hmax x.1
      have : x ∈ L.filter fun y => hold y x.1 := List.mem_filter.mpr ⟨hx, by
        have := hrx; unfold rt at this; have := of_decide_eq_true this
        unfold hold; simp [hrx]; omega⟩
      have := List.length_pos_of_mem this
      unfold cnt at h2
      omega
  · right
    have hr' : ∃ r', r = (s.hi, -1) :: r' := by
      rcases hr with ⟨hr, _, _⟩ | ⟨_, hr⟩
      · exfalso
        have h2 := sm_ends L
        rw [← sm_perm hE, hq, hr, sm_append, sm_cons, sm_nil] at h2
        simp only at h2
        omega
      · exact hr
    obtain ⟨r', hr'⟩ := hr'
    subst hr'
    have hp := hs
    rw [hq] at hp
    obtain ⟨hp1, hp2, hp3⟩ := List.pairwise_append.mp hp
    obtain ⟨hp4, hp5⟩ := List.pairwise_cons.mp hp2
    obtain ⟨hp6, _⟩ := List.pairwise_cons.mp hp5
    have hlh : s.lo ≤ s.hi := by have := hp4 (s.hi, -1) (List.mem_cons_self ..); unfold le at this; simp at this; omega
    have hE2 : ∀ e, e ∈ q ∨ e = (s.lo, 1) ∨ e = (s.hi, -1) ∨ e ∈ r' → e ∈ E := fun e he => by
      rw [hq]; simp only [List.mem_append, List.mem_cons]; exact he
    have hDq : ∀ e ∈ q, D s.lo e = true := fun e he => by
      have h2 := hp3 e he (s.lo, 1) (List.mem_cons_self ..)
      have h3 := h1 e (hE2 e (Or.inl he))
      unfold le at h2; unfold D; simp at h2; exact decide_eq_true (by omega)
    have hDr : ∀ e, e = (s.hi, -1) ∨ e ∈ r' → D s.lo e = false := fun e he => by
      have h3 := h1 e (hE2 e (Or.inr (Or.inr he)))
      rcases he with rfl | he
      · unfold D; simp; omega
      · have h2 := hp6 e he
        unfold le at h2; unfold D; simp at h2; exact decide_eq_false (by omega)
    have hfl : E.filter (D s.lo) = q ++ [(s.lo, 1)] := by
      rw [hq, List.filter_append, List.filter_eq_self.mpr hDq, List.filter_cons, if_pos (by unfold D; simp), List.filter_eq_nil_iff.mpr]
      intro e he
      rw [hDr e (by simpa using he)]; decide
    have hin : ∀ e ∈ E, D s.lo e = false → e = (s.hi, -1) ∨ e ∈ r' := fun e he hd => by
      rw [hq] at he
      simp only [List.mem_append, List.mem_cons] at he
      rcases he with he | he | he
      · rw [hDq e he] at hd; exact absurd hd (by decide)
      · subst he; unfold D at hd; simp at hd
      · exact he
    have hge : ∀ e ∈ E, D s.lo e = false → le (s.hi, -1) e := fun e he hd => by
      rcases hin e he hd with rfl | h
      · unfold le; simp
      · exact hp6 e h
    refine ⟨hm, ?_, ?_, ?_, ?_, ?_⟩
    · rw [← hcnt, hfl, sm_append, sm_cons, sm_nil]; simp only; omega
    · exact lo_of (hE.mem_iff.mp (hE2 _ (Or.inr (Or.inl rfl))))
    · intro x hx hrx hcx
      refine Int.not_lt.mp fun hlt => ?_
      obtain ⟨t, ht⟩ := filter_prefix x.1 E hs h1
      have hne : E.filter (D x.1) = q.filter (D x.1) := by
        have hz : List.filter (D x.1) ((s.hi, -1) :: r') = [] := by
          refine List.filter_eq_nil_iff.mpr ?_
          intro e he
          have h5 : le (s.lo, 1) e := hp4 e he
          have h3 := h1 e (hE2 e (Or.inr (Or.inr (by simpa using he))))
          unfold le at h5; unfold D; simp at h5 ⊢; omega
        rw [hq, List.filter_append, List.filter_cons, if_neg (by unfold D; simp; omega), hz, List.append_nil]
      obtain ⟨t2, ht2⟩ := filter_prefix x.1 q hp1 (fun e he => h1 e (hE2 e (Or.inl he)))
      have h6 := hf _ _ ht2
      rw [← hne, hcnt, hcx] at h6
      omega
    · obtain ⟨x, hx, hrx, hxh⟩ := hi_of (hE.mem_iff.mp (hE2 (s.hi, -1) (Or.inr (Or.inr (Or.inl rfl)))))
      refine ⟨x, hx, ?_, hxh⟩
      have hxl : x.1 ≤ s.lo := by
        refine Int.not_lt.mp fun hlt => ?_
        have h5 := hge (x.1, 1) (hE.mem_iff.mpr (mem_lo hx hrx)) (by unfold D; simp; omega)
        have := hrx; unfold rt at this; have := (of_decide_eq_true this).1
        unfold le at h5; simp at h5; omega
      unfold hold; simp [hrx]; omega
    · intro x hx hh
      unfold hold at hh
      simp at hh
      obtain ⟨⟨hrx, h5⟩, h6⟩ := hh
      have h7 := hge (x.2, -1) (hE.mem_iff.mpr (mem_hi hx hrx)) (by unfold D; simp; omega)
      unfold le at h7; simp at h7; omega
theorem spec_unique {L : List (Int × Int)} {lo hi m lo' hi' m' : Int} (h : Spec L lo hi m) (k : Spec L lo' hi' m') (hm : m = m') : lo = lo' ∧ hi = hi' := by
  rcases h with ⟨a1, a2, a3, _⟩ | ⟨a1, a2, ⟨x, hx, hrx, ex⟩, a4, ⟨u, hu, hhu, eu⟩, a6⟩
  · rcases k with ⟨b1, b2, _, _⟩ | ⟨b1, _⟩
    · exact ⟨by omega, by omega⟩
    · omega
  · rcases k with ⟨_, _, b3, _⟩ | ⟨b1, b2, ⟨y, hy, hry, ey⟩, b4, ⟨v, hv, hhv, ev⟩, b6⟩
    · omega
    · have h1 := a4 y hy hry (by rw [ey]; omega)
      have h2 := b4 x hx hrx (by rw [ex]; omega)
      have h3 : lo = lo' := by omega
      subst h3
      have h4 := a6 v hv hhv
      have h5 := b6 u hu hhu
      exact ⟨rfl, by omega⟩
end Go.Proofs.Ytfaikkhnlioajaa.Iv2
