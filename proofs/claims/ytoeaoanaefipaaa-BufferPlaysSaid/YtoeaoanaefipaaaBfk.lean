/- Putting by the reference, whatever is put. -/
import Derived.Test.YtoeaoanaefipaaaProg
import Derived.Below
import Derived.Deep.Draws
import Derived.Deep.AppendLies
import Derived.Maps.AppendAt
import Derived.OwnWalk
import Derived.Laws.BytesArg
import Derived.Laws.MakeOwn
import Derived.Laws.OwnMore
import Derived.Deep.OwnRows
import Derived.Tactics
import Derived.Lib.ConvBytes
import Derived.Laws.Slices
import Derived.WalkKit
import Derived.KernelRfl
import Derived.RowKit3
import Derived.Deep.LoopGhost
import Derived.Deep.QuietTactic
import Derived.BigQuiet
import Derived.WideLaws
import Derived.Deep.DeepCutAuto
import Derived.Deep.CutBlock
import Derived.Deep.RegionHeld3
import Derived.Laws.Rows
import Derived.Lib.AppendStr
import Derived.ArgAppend
import Derived.Laws.IdiomCopy
import Derived.OrdersHeld
import Derived.Laws.BitsLemmas
import Derived.RowKit
import Derived.RegionTactic
import Derived.ChangeAlike
import Derived.Outline
import Derived.LoopTactic
import Derived.WalkSpells
import Derived.WalkLawsBesides
import Derived.Lib.Hide
import Derived.StillTailTactics
import Derived.Deep.RegionWith
import Derived.Deep.RegionLaw
import Derived.Deep.DeepFit
import Derived.Deep.DeepMust
import Derived.Test.YtoeaoanaefipaaaWWords
import Derived.Test.YtoeaoanaefipaaaWLast
import Derived.Test.YtoeaoanaefipaaaWTab
import Derived.Test.YtoeaoanaefipaaaWFour
import Derived.Test.YtoeaoanaefipaaaWQPut
import Derived.Test.YtoeaoanaefipaaaWApart
import Derived.Test.YtoeaoanaefipaaaWArr
import Derived.Test.YtoeaoanaefipaaaWZeros
import Derived.Test.YtoeaoanaefipaaaWFoot
import Derived.Test.YtoeaoanaefipaaaWKept
import Derived.Test.YtoeaoanaefipaaaWShare
import Derived.Test.YtoeaoanaefipaaaWN
import Derived.Test.YtoeaoanaefipaaaWFootNe
import Derived.Test.YtoeaoanaefipaaaWAt
import Derived.Test.YtoeaoanaefipaaaWEqStruct
import Derived.Test.YtoeaoanaefipaaaWRepsOne
import Derived.Test.YtoeaoanaefipaaaWInv
import Derived.Test.YtoeaoanaefipaaaWInvWords
import Derived.Test.YtoeaoanaefipaaaWGuard
import Derived.Test.YtoeaoanaefipaaaWNEv
import Derived.Test.YtoeaoanaefipaaaWMore
import Derived.Test.YtoeaoanaefipaaaBfj
namespace Go.Proofs.Ytoeaoanaefipaaa.Bfk
open Go.RowKit Go.Proofs.YtoeaoanaefipaaaW.PrintWords Go.Proofs.YtoeaoanaefipaaaW.PrintLast Go.Proofs.YtoeaoanaefipaaaW.PrintMore 
attribute [local go_sem] max2_int min2_int max_two min_two max_three min_three max_four min_four
set_option linter.unusedVariables false
set_option linter.unusedSimpArgs false
open Go.Maps Go.ChangeMaps Go.Proofs.Ytoeaoanaefipaaa.Bf1 Go.Proofs.Ytoeaoanaefipaaa.Bf2 Go.Proofs.Ytoeaoanaefipaaa.Bf3 Go.Proofs.Ytoeaoanaefipaaa.BfP Go.Proofs.Ytoeaoanaefipaaa.Bf4 Go.Proofs.Ytoeaoanaefipaaa.Bf5 Go.Proofs.Ytoeaoanaefipaaa.Bf6 Go.Proofs.Ytoeaoanaefipaaa.Bf7 Go.Proofs.Ytoeaoanaefipaaa.Bf8 Go.Proofs.Ytoeaoanaefipaaa.Bf9 Go.Proofs.Ytoeaoanaefipaaa.BfN Go.Proofs.Ytoeaoanaefipaaa.Bfa Go.Proofs.Ytoeaoanaefipaaa.BfQ Go.Proofs.Ytoeaoanaefipaaa.Bfb Go.Proofs.Ytoeaoanaefipaaa.Bfc Go.Proofs.Ytoeaoanaefipaaa.Bfd Go.Proofs.Ytoeaoanaefipaaa.Bfe Go.Proofs.Ytoeaoanaefipaaa.Bfg Go.Proofs.Ytoeaoanaefipaaa.Bfh Go.Proofs.Ytoeaoanaefipaaa.Bfi Go.Proofs.Ytoeaoanaefipaaa.Bfj
attribute [local go_sem] cellS1 frozenS1 cellS2 frozenS2 cellS3 frozenS3 cellS4 frozenS4 cellS5 frozenS5 cellS6 frozenS6

set_option maxRecDepth 100000 in
theorem ref_bad (h : Nat) (mo : Int) (P : List Rt) (lo : Int) (A : Option Addr) (c : Nat) (a b : Int) (S0 : Option Addr) (s : List Int) (cs : Nat) (z w : World) (k : IsR z w h mo P lo A c) (hsl : s.length ≤ 9223372036854775807) (hv : ¬ (0 ≤ a ∧ a ≤ 65535 ∧ 1 ≤ b ∧ b ≤ 256 ∧ s.length ≤ 96)) : Calls Try.prog 17 #[.pointer (some ⟨h, 0, none⟩), .int .i64 a, .int .i64 b, .slice S0 s.length cs] w fun en w' => en = .returned (.int .i64 1) ∧ w' = w := by
  clear k
  obtain ⟨sl, hsle⟩ : ∃ sl, s.length = sl := ⟨_, rfl⟩
  rw [hsle] at hsl hv ⊢
  clear hsle
  go_enter Try.func17, Try.ntmps17
  by_cases k1 : a < 0
  · have k1b : decide (a < 0) = true := decide_eq_true k1
    go_wp2
    go_ret
    exact ⟨rfl, rfl⟩
  have k1b : decide (a < 0) = false := decide_eq_false k1
  by_cases k2 : 65535 < a
  · have k2b : decide (65535 < a) = true := decide_eq_true k2
    go_wp2
    go_ret
    exact ⟨rfl, rfl⟩
  have k2b : decide (65535 < a) = false := decide_eq_false k2
  by_cases k3 : b < 1
  · have k3b : decide (b < 1) = true := decide_eq_true k3
    go_wp2
    go_ret
    exact ⟨rfl, rfl⟩
  have k3b : decide (b < 1) = false := decide_eq_false k3
  by_cases k4 : 256 < b
  · have k4b : decide (256 < b) = true := decide_eq_true k4
    go_wp2
    go_ret
    exact ⟨rfl, rfl⟩
  have k4b : decide (256 < b) = false := decide_eq_false k4
  have k5 : 96 < sl := by omega
  clear hv
  have k6 : decide ((96 : Int) < (sl : Int)) = true := decide_eq_true (by omega)
  go_wp2
  go_ret
  exact ⟨rfl, rfl⟩
theorem ref_put (h : Nat) (mo : Int) (P : List Rt) (lo : Int) (A : Option Addr) (c : Nat) (a b : Int) (S0 : Option Addr) (s : List Int) (cs : Nat) (z w : World) (k : IsR z w h mo P lo A c) (hC : ∀ W, Upd (fun j => j = h) w W → Kd.C (Kd.int .u8) W S0 s.length s) (hs : ∀ y ∈ s, 0 ≤ y ∧ y ≤ 255) (hL : ∀ x ∈ its P, ItOk x) (hl : P.length ≤ 64) (hlm : (P.length : Int) ≤ mo) (h1 : 1 ≤ mo) (hlo : 0 ≤ lo ∧ lo ≤ 1000000) (hsl : s.length ≤ maxLen) : Calls Try.prog 17 #[.pointer (some ⟨h, 0, none⟩), .int .i64 a, .int .i64 b, .slice S0 s.length cs] w fun en w' => ∃ (P' : List Rt) (A' : Option Addr) (c' : Nat), en = .returned (.int .i64 (putS mo (its P) lo a b s).1) ∧ its P' = (putS mo (its P) lo a b s).2.1 ∧ IsR z w' h mo P' (putS mo (its P) lo a b s).2.2 A' c' ∧ Upd (fun j => j = h) w w' := by
  by_cases hv : 0 ≤ a ∧ a ≤ 65535 ∧ 1 ≤ b ∧ b ≤ 256 ∧ s.length ≤ 96
  · exact ref_good h mo P lo A c a b S0 s cs z w k hC hs hL hl hlm h1 hlo hv
  · refine (ref_bad h mo P lo A c a b S0 s cs z w k (by unfold maxLen at hsl; omega) hv).mono ?_
    rintro en w' ⟨rfl, rfl⟩
    have hp : putS mo (its P) lo a b s = (1, its P, lo) := by unfold putS; rw [if_pos hv]
    rw [hp]
    exact ⟨P, A, c, rfl, rfl, k, Upd.refl _ _⟩
theorem rd_mem (l : List Int) (k : Nat) (hk : k < l.length) : Go.Proofs.YtoeaoanaefipaaaW.PrintWords.rd l k ∈ l := by
  unfold Go.Proofs.YtoeaoanaefipaaaW.PrintWords.rd
  rw [Int.toNat_natCast, List.getD_eq_getElem?_getD, List.getElem?_eq_getElem hk]
  exact List.getElem_mem hk
theorem add_one (ad : Addr) (m : Nat) : ad.add (m + 1) = ⟨(ad.add m).block, (ad.add m).off + 1, none⟩ := by
  unfold Addr.add
  by_cases h : m = 0
  · subst h; simp
  · rw [if_neg (by omega), if_neg h]; simp only [Nat.add_assoc]
end Go.Proofs.Ytoeaoanaefipaaa.Bfk
