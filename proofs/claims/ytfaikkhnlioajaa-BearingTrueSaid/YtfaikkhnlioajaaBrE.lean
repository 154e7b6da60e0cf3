/- What was so is so: the plain part. -/
import Derived.Test.YtfaikkhnlioajaaProg
import Derived.Below
import Derived.Deep.Draws
import Derived.Deep.AppendLies
import Derived.Maps.AppendAt
import Derived.OwnWalk
import Derived.Laws.BytesArg
import Derived.Laws.MakeOwn
import Derived.Laws.OwnMore
import Derived.Deep.OwnRows
import Derived.Tactics
import Derived.Lib.ConvBytes
import Derived.Laws.Slices
import Derived.WalkKit
import Derived.KernelRfl
import Derived.RowKit3
import Derived.Deep.LoopGhost
import Derived.Deep.QuietTactic
import Derived.BigQuiet
import Derived.WideLaws
import Derived.Deep.DeepCutAuto
import Derived.Deep.CutBlock
import Derived.Deep.RegionHeld3
import Derived.Laws.Rows
import Derived.Lib.AppendStr
import Derived.ArgAppend
import Derived.Laws.IdiomCopy
import Derived.OrdersHeld
import Derived.Laws.BitsLemmas
import Derived.RowKit
import Derived.RegionTactic
import Derived.ChangeAlike
import Derived.Outline
import Derived.LoopTactic
import Derived.WalkSpells
import Derived.WalkLawsBesides
import Derived.Lib.Hide
import Derived.StillTailTactics
import Derived.Deep.RegionWith
import Derived.Deep.RegionLaw
import Derived.Deep.DeepFit
import Derived.Deep.DeepMust
import Derived.Test.YtfaikkhnlioajaaWWords
import Derived.Test.YtfaikkhnlioajaaWLast
import Derived.Test.YtfaikkhnlioajaaWTab
import Derived.Test.YtfaikkhnlioajaaWFour
import Derived.Test.YtfaikkhnlioajaaWQPut
import Derived.Test.YtfaikkhnlioajaaWApart
import Derived.Test.YtfaikkhnlioajaaWArr
import Derived.Test.YtfaikkhnlioajaaWZeros
import Derived.Test.YtfaikkhnlioajaaWFoot
import Derived.Test.YtfaikkhnlioajaaWKept
import Derived.Test.YtfaikkhnlioajaaWShare
import Derived.Test.YtfaikkhnlioajaaWN
import Derived.Test.YtfaikkhnlioajaaWFootNe
import Derived.Test.YtfaikkhnlioajaaWAt
import Derived.Test.YtfaikkhnlioajaaWEqStruct
import Derived.Test.YtfaikkhnlioajaaWRepsOne
import Derived.Test.YtfaikkhnlioajaaWInv
import Derived.Test.YtfaikkhnlioajaaWInvWords
import Derived.Test.YtfaikkhnlioajaaWGuard
import Derived.Test.YtfaikkhnlioajaaWNEv
import Derived.Test.YtfaikkhnlioajaaWMore
import Derived.Test.YtfaikkhnlioajaaBrA
namespace Go.Proofs.Ytfaikkhnlioajaa.BrE
open Go.RowKit Go.Proofs.YtfaikkhnlioajaaW.PrintWords Go.Proofs.YtfaikkhnlioajaaW.PrintLast Go.Proofs.YtfaikkhnlioajaaW.PrintMore 
attribute [local go_sem] max2_int min2_int max_two min_two max_three min_three max_four min_four
set_option linter.unusedVariables false
set_option linter.unusedSimpArgs false
open Go.Proofs.Ytfaikkhnlioajaa.QBase Go.Proofs.Ytfaikkhnlioajaa.Sch Go.Proofs.Ytfaikkhnlioajaa.Plc Go.Proofs.Ytfaikkhnlioajaa.Gd1 Go.Proofs.Ytfaikkhnlioajaa.Gd2 Go.Proofs.Ytfaikkhnlioajaa.Gd3 Go.Proofs.Ytfaikkhnlioajaa.Gd4 Go.Proofs.Ytfaikkhnlioajaa.BrP Go.Proofs.Ytfaikkhnlioajaa.Br1 Go.Proofs.Ytfaikkhnlioajaa.Br2 Go.Proofs.Ytfaikkhnlioajaa.Br3 Go.Proofs.Ytfaikkhnlioajaa.Br4 Go.Proofs.Ytfaikkhnlioajaa.Br5 Go.Proofs.Ytfaikkhnlioajaa.Br6 Go.Proofs.Ytfaikkhnlioajaa.Br7 Go.Proofs.Ytfaikkhnlioajaa.Br8 Go.Proofs.Ytfaikkhnlioajaa.Br9 Go.Proofs.Ytfaikkhnlioajaa.BrA Go.Maps
attribute [local go_sem] cellS1 frozenS1 cellS2 frozenS2 cellS3 frozenS3 cellS4 frozenS4 cellS5 frozenS5 cellS6 frozenS6
open Go.Shelf


/-- Of the first alone something is known. -/
def one (lo hi a : Int) : KM := fun v => if v = 1 then some (lo, hi, a) else none
theorem one_ok {lo hi a : Int} (hR : R lo hi) (h0 : 0 ≤ a) (h1 : a ≤ 1099511627776) : KOk (one lo hi a) := by
  intro r l h b hr
  unfold one at hr
  split at hr
  · cases hr; exact ⟨h0, h1, hR⟩
  · cases hr
theorem may1 {t : Int} (h0 : 0 ≤ t) (h1 : t ≤ 1099511627776) : mayF 3 0 1 t = true := decide_eq_true ⟨by omega, by omega, by omega, h0, h1⟩
/-- How far two clocks part that go on in the same beats. -/
theorem part_in (n a b : Int) (hn : 0 ≤ n) (hn1 : n ≤ 1000) (ha : 97 * n ≤ a) (hb : a ≤ 103 * n) (hc : 97 * n ≤ b) (he : b ≤ 103 * n) : b - a ≤ spr a 3 ∧ a - b ≤ spr a 3 := by
  have z1 : b ≤ a * 103 / 97 := Int.le_ediv_of_mul_le (by omega) (by omega)
  have z2 : BrP.up (a * 97) 103 ≤ b := up_le _ _ _ (by omega) (by omega)
  have s1 := most_sub a 3 (by omega)
  have s2 := least_sub a 3 (by omega)
  have s4 : spr a 3 = max (2 * 3 * a / (100 - 3)) (2 * 3 * a / (100 + 3)) := rfl
  omega
theorem spr_small (a : Int) (h0 : 0 ≤ a) (h1 : a ≤ 10000) : 0 ≤ spr a 3 ∧ spr a 3 ≤ 1000 := by
  have s4 : spr a 3 = max (2 * 3 * a / (100 - 3)) (2 * 3 * a / (100 + 3)) := rfl
  omega
/-- What is told of the other one later. -/
theorem at_one (lo hi a t n o p d : Int) (hlo : -2000000 ≤ lo) (hhi : hi ≤ 2000000) (h0 : 0 ≤ a) (h1 : a ≤ 3000000) (hl : lo ≤ d) (hr : d ≤ hi) (hn : 0 ≤ n) (hn1 : n ≤ 60) (ho : 97 * n ≤ o) (ho1 : o ≤ 103 * n) (hp : 97 * n ≤ p) (hp1 : p ≤ 103 * n) (ht : t = a + o) :
    (atF 3 0 (2 * (3 * 400)) (1 + 2) (one lo hi a) 1 t = (0, 0, 6) ∧ 2400 < o) ∨ ∃ x y, atF 3 0 (2 * (3 * 400)) (1 + 2) (one lo hi a) 1 t = (x, y, 0) ∧ x ≤ d + p - o ∧ d + p - o ≤ y ∧ -3000000 ≤ x ∧ y ≤ 3000000 := by
  subst ht
  unfold atF
  rw [if_pos (may1 (by omega) (by omega)), show one lo hi a 1 = some (lo, hi, a) from if_pos rfl]
  dsimp only
  rw [show a + o - a = o by omega, if_neg (by omega)]
  by_cases hk : (2 * (3 * 400) : Int) < o
  · rw [if_pos hk]
    exact Or.inl ⟨rfl, by omega⟩
  · rw [if_neg hk]
    obtain ⟨q1, q2⟩ := part_in n o p hn (by omega) ho ho1 hp hp1
    obtain ⟨q3, q4⟩ := spr_small o (by omega) (by omega)
    have hR : R lo hi := ⟨by omega, by omega, by omega⟩
    have hR2 : R (lo - spr o 3) (hi + spr o 3) := ⟨by omega, by omega, by omega⟩
    have hg := grow_eq lo hi o 3 hR (by omega) (by omega) (by omega) (by omega)
    rw [if_pos hR2] at hg
    rw [show (1 + 2 : Int) = 3 from rfl, hg]
    dsimp only
    rw [if_pos rfl]
    exact Or.inr ⟨_, _, rfl, by omega, by omega, by omega, by omega⟩
theorem put_first (lo hi : Int) (hR : R lo hi) : putF 3 0 (2 * (3 * 400)) (1 + 2) (fun _ => none) 1 lo hi 2000000 = (0, one lo hi 2000000) := by
  unfold putF
  rw [if_pos (may1 (by omega) (by omega)), if_pos hR, if_neg (by decide)]
  have : newF (atF 3 0 (2 * (3 * 400)) (1 + 2) (fun _ => none) 1 2000000) lo hi 2000000 = (lo, hi, 2000000) := by
    unfold newF atF
    rw [if_pos (may1 (by omega) (by omega))]
    rfl
  rw [this]
  rfl
/-- What is put a second time. -/
theorem put_second (lo hi lo2 hi2 t n o p d d2 : Int) (hlo : -2000000 ≤ lo) (hhi : hi ≤ 2000000) (hl : lo ≤ d) (hr : d ≤ hi) (hn : 0 ≤ n) (hn1 : n ≤ 60) (ho : 97 * n ≤ o) (ho1 : o ≤ 103 * n) (hp : 97 * n ≤ p) (hp1 : p ≤ 103 * n) (ht : t = 2000000 + o)
    (hd : d2 = d + p - o) (hl2 : lo2 ≤ d2) (hr2 : d2 ≤ hi2) (hlo2 : -2000000 ≤ lo2) (hhi2 : hi2 ≤ 2000000) :
    ∃ x y, putF 3 0 (2 * (3 * 400)) (1 + 2) (one lo hi 2000000) 1 lo2 hi2 t = (0, one x y t) ∧ x ≤ d2 ∧ d2 ≤ y ∧ -2000000 ≤ x ∧ y ≤ 2000000 := by
  have hR2 : R lo2 hi2 := ⟨by omega, by omega, by omega⟩
  have key : ∃ x y, newF (atF 3 0 (2 * (3 * 400)) (1 + 2) (one lo hi 2000000) 1 t) lo2 hi2 t = (x, y, t) ∧ x ≤ d2 ∧ d2 ≤ y ∧ -2000000 ≤ x ∧ y ≤ 2000000 := by
    rcases at_one lo hi 2000000 t n o p d hlo hhi (by omega) (by omega) hl hr hn hn1 ho ho1 hp hp1 ht with ⟨h, _⟩ | ⟨x, y, h, h1, h2, h3, h4⟩
    · rw [h]
      exact ⟨lo2, hi2, rfl, hl2, hr2, hlo2, hhi2⟩
    · rw [h]
      unfold newF
      rw [if_pos rfl]
      have hR : R x y := ⟨by omega, by omega, by omega⟩
      have hm := meet_eq x y lo2 hi2
      rw [if_pos ⟨hR, hR2⟩, if_pos (by unfold mx mn; split <;> split <;> omega)] at hm
      dsimp only
      rw [hm]
      exact ⟨mx x lo2, mn y hi2, rfl, by unfold mx; split <;> omega, by unfold mn; split <;> omega, by unfold mx; split <;> omega, by unfold mn; split <;> omega⟩
  obtain ⟨x, y, hk, h1, h2, h3, h4⟩ := key
  refine ⟨x, y, ?_, h1, h2, h3, h4⟩
  unfold putF
  rw [if_pos (may1 (by omega) (by omega)), if_pos hR2, show one lo hi 2000000 1 = some (lo, hi, 2000000) from if_pos rfl, show oldB (some (lo, hi, 2000000)) t = false from decide_eq_false (by omega), if_neg (by decide), hk]
  congr 1
  funext v
  unfold one
  by_cases hv : v = 1
  · rw [if_pos hv, if_pos hv]
  · rw [if_neg hv, if_neg hv, if_neg hv]
end Go.Proofs.Ytfaikkhnlioajaa.BrE
