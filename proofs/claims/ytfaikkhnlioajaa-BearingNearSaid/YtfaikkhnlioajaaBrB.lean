/- Near is near: the plain part. -/
import Derived.Test.YtfaikkhnlioajaaProg
import Derived.Below
import Derived.Deep.Draws
import Derived.Deep.AppendLies
import Derived.Maps.AppendAt
import Derived.OwnWalk
import Derived.Laws.BytesArg
import Derived.Laws.MakeOwn
import Derived.Laws.OwnMore
import Derived.Deep.OwnRows
import Derived.Tactics
import Derived.Lib.ConvBytes
import Derived.Laws.Slices
import Derived.WalkKit
import Derived.KernelRfl
import Derived.RowKit3
import Derived.Deep.LoopGhost
import Derived.Deep.QuietTactic
import Derived.BigQuiet
import Derived.WideLaws
import Derived.Deep.DeepCutAuto
import Derived.Deep.CutBlock
import Derived.Deep.RegionHeld3
import Derived.Laws.Rows
import Derived.Lib.AppendStr
import Derived.ArgAppend
import Derived.Laws.IdiomCopy
import Derived.OrdersHeld
import Derived.Laws.BitsLemmas
import Derived.RowKit
import Derived.RegionTactic
import Derived.ChangeAlike
import Derived.Outline
import Derived.LoopTactic
import Derived.WalkSpells
import Derived.WalkLawsBesides
import Derived.Lib.Hide
import Derived.StillTailTactics
import Derived.Deep.RegionWith
import Derived.Deep.RegionLaw
import Derived.Deep.DeepFit
import Derived.Deep.DeepMust
import Derived.Test.YtfaikkhnlioajaaWWords
import Derived.Test.YtfaikkhnlioajaaWLast
import Derived.Test.YtfaikkhnlioajaaWTab
import Derived.Test.YtfaikkhnlioajaaWFour
import Derived.Test.YtfaikkhnlioajaaWQPut
import Derived.Test.YtfaikkhnlioajaaWApart
import Derived.Test.YtfaikkhnlioajaaWArr
import Derived.Test.YtfaikkhnlioajaaWZeros
import Derived.Test.YtfaikkhnlioajaaWFoot
import Derived.Test.YtfaikkhnlioajaaWKept
import Derived.Test.YtfaikkhnlioajaaWShare
import Derived.Test.YtfaikkhnlioajaaWN
import Derived.Test.YtfaikkhnlioajaaWFootNe
import Derived.Test.YtfaikkhnlioajaaWAt
import Derived.Test.YtfaikkhnlioajaaWEqStruct
import Derived.Test.YtfaikkhnlioajaaWRepsOne
import Derived.Test.YtfaikkhnlioajaaWInv
import Derived.Test.YtfaikkhnlioajaaWInvWords
import Derived.Test.YtfaikkhnlioajaaWGuard
import Derived.Test.YtfaikkhnlioajaaWNEv
import Derived.Test.YtfaikkhnlioajaaWMore
import Derived.Test.YtfaikkhnlioajaaBrA
namespace Go.Proofs.Ytfaikkhnlioajaa.BrB
open Go.RowKit Go.Proofs.YtfaikkhnlioajaaW.PrintWords Go.Proofs.YtfaikkhnlioajaaW.PrintLast Go.Proofs.YtfaikkhnlioajaaW.PrintMore 
attribute [local go_sem] max2_int min2_int max_two min_two max_three min_three max_four min_four
set_option linter.unusedVariables false
set_option linter.unusedSimpArgs false
open Go.Proofs.Ytfaikkhnlioajaa.QBase Go.Proofs.Ytfaikkhnlioajaa.Sch Go.Proofs.Ytfaikkhnlioajaa.Plc Go.Proofs.Ytfaikkhnlioajaa.Gd1 Go.Proofs.Ytfaikkhnlioajaa.Gd3 Go.Proofs.Ytfaikkhnlioajaa.Gd4 Go.Proofs.Ytfaikkhnlioajaa.BrP Go.Proofs.Ytfaikkhnlioajaa.Br1 Go.Proofs.Ytfaikkhnlioajaa.Br2 Go.Proofs.Ytfaikkhnlioajaa.Br3 Go.Proofs.Ytfaikkhnlioajaa.Br4 Go.Proofs.Ytfaikkhnlioajaa.Br5 Go.Proofs.Ytfaikkhnlioajaa.Br6 Go.Proofs.Ytfaikkhnlioajaa.Br7 Go.Proofs.Ytfaikkhnlioajaa.Br8 Go.Proofs.Ytfaikkhnlioajaa.Br9 Go.Proofs.Ytfaikkhnlioajaa.BrA Go.Maps
attribute [local go_sem] cellS1 frozenS1 cellS2 frozenS2 cellS3 frozenS3 cellS4 frozenS4 cellS5 frozenS5 cellS6 frozenS6
open Go.Shelf


theorem mayF_true {n i r t : Int} (h0 : 0 ≤ r) (h1 : r < n) (h2 : r ≠ i) (h3 : 0 ≤ t) (h4 : t ≤ 1099511627776) : mayF n i r t = true := decide_eq_true ⟨h0, h1, h2, h3, h4⟩
theorem atF_none {n i kp d : Int} {M : KM} {r t : Int} (h : M r = none) : (atF n i kp d M r t).2.2 ≠ 0 := by
  unfold atF
  split
  · rw [h]; exact (by decide : (6 : Int) ≠ 0)
  · exact (by decide : (1 : Int) ≠ 0)
theorem atF_congr {n i kp d : Int} {M M' : KM} {r t : Int} (h : M r = M' r) : atF n i kp d M r t = atF n i kp d M' r t := by unfold atF; rw [h]
theorem upto_congr (n i kp d : Int) (M M' : KM) (t : Int) (k : Nat) (h : ∀ j : Nat, j < k → M (j : Int) = M' (j : Int)) : upto n i kp d M t k = upto n i kp d M' t k := by
  induction k with
  | zero => rfl
  | succ k ih =>
    obtain ⟨x, y, e, he⟩ : ∃ x y e, atF n i kp d M (k : Nat) t = (x, y, e) := ⟨_, _, _, rfl⟩
    have he' : atF n i kp d M' (k : Nat) t = (x, y, e) := by rw [← he]; exact (atF_congr (h k (Nat.lt_succ_self k))).symm
    have ih' := ih (fun j hj => h j (Nat.lt_succ_of_lt hj))
    by_cases h0 : e = 0
    · subst h0
      rw [upto_in _ _ _ _ _ _ _ he, upto_in _ _ _ _ _ _ _ he', ih']
    · rw [upto_out _ _ _ _ _ _ _ he h0, upto_out _ _ _ _ _ _ _ he' h0, ih']
theorem upto_more (n i kp d : Int) (M : KM) (t : Int) (k m : Nat) (hkm : k ≤ m) (h : ∀ j : Nat, k ≤ j → j < m → (atF n i kp d M (j : Int) t).2.2 ≠ 0) : upto n i kp d M t m = upto n i kp d M t k := by
  induction m with
  | zero => obtain rfl : k = 0 := by omega
            rfl
  | succ m ih =>
    by_cases hk : k = m + 1
    · subst hk; rfl
    · obtain ⟨x, y, e, he⟩ : ∃ x y e, atF n i kp d M (m : Nat) t = (x, y, e) := ⟨_, _, _, rfl⟩
      have h0 := h m (by omega) (by omega)
      rw [he] at h0
      rw [upto_out _ _ _ _ _ _ _ he h0]
      exact ih (by omega) (fun j h1 h2 => h j h1 (by omega))
/-- Of those below k alone something is known, and it was so at 100. -/
def NInv (M : KM) (k : Nat) : Prop := KOk M ∧ ∀ v q, M v = some q → v < (k : Int) ∧ q.2.2 = 100
theorem NInv.none_at {M : KM} {k : Nat} (h : NInv M k) {v : Int} (hv : (k : Int) ≤ v) : M v = none := by
  cases hm : M v with
  | none => rfl
  | some q => have := (h.2 v q hm).1; omega
theorem NInv.zero : NInv (fun _ => none) 0 := ⟨(fun _ _ _ _ h => by cases h), (fun _ _ h => by cases h)⟩
theorem NInv.skip {M : KM} {k : Nat} (h : NInv M k) : NInv M (k + 1) := ⟨h.1, fun v q hq => ⟨by have := (h.2 v q hq).1; omega, (h.2 v q hq).2⟩⟩
theorem NInv.put {M : KM} {k : Nat} (h : NInv M k) {lo hi : Int} (hR : R lo hi) : NInv (fun v => if v = (k : Int) then some (lo, hi, 100) else M v) (k + 1) := by
  refine ⟨fun v l h' a hv => ?_, fun v q hq => ?_⟩
  · dsimp only at hv
    split at hv
    · cases hv; exact ⟨by omega, by omega, hR⟩
    · exact h.1 v l h' a hv
  · dsimp only at hq
    split at hq
    · cases hq; exact ⟨by omega, rfl⟩
    · have := h.2 v q hq; exact ⟨by omega, this.2⟩
theorem near_late {M : KM} {k : Nat} (h : NInv M k) : upto 3 1 (2 * (3 * 400)) (1 + 2) M 100000 3 = [] := by
  rw [upto_more _ _ _ _ _ _ 0 3 (by omega) (fun j _ _ => ?_)]
  · rfl
  · unfold atF
    split
    · cases hm : M (j : Int) with
      | none => exact (by decide : (6 : Int) ≠ 0)
      | some q =>
        obtain ⟨lo, hi, a⟩ := q
        have := (h.2 _ _ hm).2
        dsimp only at this ⊢
        subst this
        rw [if_neg (by omega), if_pos (by omega)]
        exact (by decide : (6 : Int) ≠ 0)
    · exact (by decide : (1 : Int) ≠ 0)
theorem put_new_eq {M : KM} {k : Nat} (h : NInv M k) (hk : k < 3) (h1 : k ≠ 1) (lo hi : Int) : putF 3 1 (2 * (3 * 400)) (1 + 2) M (k : Int) lo hi 100 = if R lo hi then (0, fun v => if v = (k : Int) then some (lo, hi, 100) else M v) else (1, M) := by
  have hn := h.none_at (Int.le_refl (k : Int))
  unfold putF
  rw [if_pos (mayF_true (by omega) (by omega) (by omega) (by omega) (by omega)), hn]
  by_cases hR : R lo hi
  · rw [if_pos hR, if_pos hR, if_neg (by decide)]
    have := atF_none (n := 3) (i := 1) (kp := (2 * (3 * 400))) (d := (1 + 2)) (t := 100) hn
    unfold newF
    rw [if_neg this]
  · rw [if_neg hR, if_neg hR]
/-- What is near of those below k + 1. -/
theorem near_step {M : KM} {k : Nat} (h : NInv M k) (lo hi t x y e : Int) (he : atF 3 1 (2 * (3 * 400)) (1 + 2) (fun v => if v = (k : Int) then some (lo, hi, 100) else M v) (k : Int) t = (x, y, e)) (b : Bool) (hb : ival_Inside.f x y 400 = some b) :
    nearL 400 (upto 3 1 (2 * (3 * 400)) (1 + 2) (fun v => if v = (k : Int) then some (lo, hi, 100) else M v) t (k + 1)) = if e = 0 ∧ b = true then nearL 400 (upto 3 1 (2 * (3 * 400)) (1 + 2) M t k) + 1 else nearL 400 (upto 3 1 (2 * (3 * 400)) (1 + 2) M t k) := by
  have hc := upto_congr 3 1 (2 * (3 * 400)) (1 + 2) (fun v => if v = (k : Int) then some (lo, hi, 100) else M v) M t k (fun j hj => if_neg (by omega))
  by_cases h0 : e = 0
  · subst h0
    rw [upto_in _ _ _ _ _ _ _ he, nearL_snoc, hc]
    unfold insB
    rw [hb]
    cases b <;> simp
  · rw [upto_out _ _ _ _ _ _ _ he h0, hc, if_neg (fun h => h0 h.1)]
theorem near_skip {M : KM} {k : Nat} (h : NInv M k) (t : Int) : nearL 400 (upto 3 1 (2 * (3 * 400)) (1 + 2) M t (k + 1)) = nearL 400 (upto 3 1 (2 * (3 * 400)) (1 + 2) M t k) := by
  rw [upto_more _ _ _ _ _ _ k (k + 1) (by omega) (fun j h1 h2 => atF_none (h.none_at (by omega)))]
theorem near_end {M : KM} {k : Nat} (h : NInv M k) (hk : k ≤ 3) (t : Int) : nearL 400 (upto 3 1 (2 * (3 * 400)) (1 + 2) M t 3) = nearL 400 (upto 3 1 (2 * (3 * 400)) (1 + 2) M t k) := by
  rw [upto_more _ _ _ _ _ _ k 3 hk (fun j h1 h2 => atF_none (h.none_at (by omega)))]
end Go.Proofs.Ytfaikkhnlioajaa.BrB
