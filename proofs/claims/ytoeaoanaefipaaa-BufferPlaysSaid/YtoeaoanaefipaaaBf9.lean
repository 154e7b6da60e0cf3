/- Putting into a buffer. -/
import Derived.Test.YtoeaoanaefipaaaProg
import Derived.Below
import Derived.Deep.Draws
import Derived.Deep.AppendLies
import Derived.Maps.AppendAt
import Derived.OwnWalk
import Derived.Laws.BytesArg
import Derived.Laws.MakeOwn
import Derived.Laws.OwnMore
import Derived.Deep.OwnRows
import Derived.Tactics
import Derived.Lib.ConvBytes
import Derived.Laws.Slices
import Derived.WalkKit
import Derived.KernelRfl
import Derived.RowKit3
import Derived.Deep.LoopGhost
import Derived.Deep.QuietTactic
import Derived.BigQuiet
import Derived.WideLaws
import Derived.Deep.DeepCutAuto
import Derived.Deep.CutBlock
import Derived.Deep.RegionHeld3
import Derived.Laws.Rows
import Derived.Lib.AppendStr
import Derived.ArgAppend
import Derived.Laws.IdiomCopy
import Derived.OrdersHeld
import Derived.Laws.BitsLemmas
import Derived.RowKit
import Derived.RegionTactic
import Derived.ChangeAlike
import Derived.Outline
import Derived.LoopTactic
import Derived.WalkSpells
import Derived.WalkLawsBesides
import Derived.Lib.Hide
import Derived.StillTailTactics
import Derived.Deep.RegionWith
import Derived.Deep.RegionLaw
import Derived.Deep.DeepFit
import Derived.Deep.DeepMust
import Derived.Test.YtoeaoanaefipaaaWWords
import Derived.Test.YtoeaoanaefipaaaWLast
import Derived.Test.YtoeaoanaefipaaaWTab
import Derived.Test.YtoeaoanaefipaaaWFour
import Derived.Test.YtoeaoanaefipaaaWQPut
import Derived.Test.YtoeaoanaefipaaaWApart
import Derived.Test.YtoeaoanaefipaaaWArr
import Derived.Test.YtoeaoanaefipaaaWZeros
import Derived.Test.YtoeaoanaefipaaaWFoot
import Derived.Test.YtoeaoanaefipaaaWKept
import Derived.Test.YtoeaoanaefipaaaWShare
import Derived.Test.YtoeaoanaefipaaaWN
import Derived.Test.YtoeaoanaefipaaaWFootNe
import Derived.Test.YtoeaoanaefipaaaWAt
import Derived.Test.YtoeaoanaefipaaaWEqStruct
import Derived.Test.YtoeaoanaefipaaaWRepsOne
import Derived.Test.YtoeaoanaefipaaaWInv
import Derived.Test.YtoeaoanaefipaaaWInvWords
import Derived.Test.YtoeaoanaefipaaaWGuard
import Derived.Test.YtoeaoanaefipaaaWNEv
import Derived.Test.YtoeaoanaefipaaaWMore
import Derived.Test.YtoeaoanaefipaaaBf8
import Derived.Deep.RegionHeldLaw
import Derived.Deep.RegionLawGrows
namespace Go.Proofs.Ytoeaoanaefipaaa.Bf9
open Go.RowKit Go.Proofs.YtoeaoanaefipaaaW.PrintWords Go.Proofs.YtoeaoanaefipaaaW.PrintLast Go.Proofs.YtoeaoanaefipaaaW.PrintMore 
attribute [local go_sem] max2_int min2_int max_two min_two max_three min_three max_four min_four
set_option linter.unusedVariables false
set_option linter.unusedSimpArgs false
open Go.Maps Go.ChangeMaps Go.Proofs.Ytoeaoanaefipaaa.Bf1 Go.Proofs.Ytoeaoanaefipaaa.Bf2 Go.Proofs.Ytoeaoanaefipaaa.Bf3 Go.Proofs.Ytoeaoanaefipaaa.BfP Go.Proofs.Ytoeaoanaefipaaa.Bf4 Go.Proofs.Ytoeaoanaefipaaa.Bf5 Go.Proofs.Ytoeaoanaefipaaa.Bf6 Go.Proofs.Ytoeaoanaefipaaa.Bf7 Go.Proofs.Ytoeaoanaefipaaa.Bf8
attribute [local go_sem] cellS1 frozenS1 cellS2 frozenS2 cellS3 frozenS3 cellS4 frozenS4 cellS5 frozenS5 cellS6 frozenS6

theorem u8_inj {l l' : List Int} (h : ∀ y ∈ l, 0 ≤ y ∧ y ≤ 255) (h' : ∀ y ∈ l', 0 ≤ y ∧ y ≤ 255) (e : strOfNums l = strOfNums l') : l = l' := by
  have e1 : (strOfNums l).data.toList = (strOfNums l').data.toList := by rw [e]
  rw [strOfNums_data, strOfNums_data] at e1
  have key : ∀ l : List Int, (∀ y ∈ l, 0 ≤ y ∧ y ≤ 255) → (l.map fun n => UInt8.ofNat n.toNat).map (fun u => (u.toNat : Int)) = l := by
    intro l hl
    rw [List.map_map]
    refine (List.map_congr_left (g := id) (fun y hy => ?_)).trans (List.map_id l)
    have h3 := hl y hy
    have h4 : (UInt8.ofNat y.toNat).toNat = y.toNat := UInt8.toNat_ofNat_of_lt' (by show _ < 256; omega)
    show ((UInt8.ofNat y.toNat).toNat : Int) = y
    rw [h4, Int.toNat_of_nonneg h3.1]
  rw [← key l h, ← key l' h', e1]
theorem put_bad (g : Nat) (mo : Int) (L : List It) (lo : Int) (m : Nat) (a b : Int) (As : Option Addr) (s : List Int) (cs : Nat) (z w : World) (h : IsBuf z w g mo L lo m) (hsl : s.length ≤ 9223372036854775807) (hv : ¬ (0 ≤ a ∧ a ≤ 65535 ∧ 1 ≤ b ∧ b ≤ 256 ∧ s.length ≤ 96)) : Calls Try.prog 8 #[.pointer (some ⟨g, 0, none⟩), .int .i64 a, .int .i64 b, .slice As s.length cs] w fun en w' => en = .returned (.int .i64 1) ∧ w' = w := by
  have H := Aside0.mk h
  obtain ⟨bm, A, c, n, h1, h2, h3, h4, h5, h6, h7, h8, h9, h10, h11⟩ := h
  have HI := Aside0.mk h1
  clear h1 h2 h3 h6 h4 h5 h7 h8 h9 h10 h11
  obtain ⟨sl, hsle⟩ : ∃ sl, s.length = sl := ⟨_, rfl⟩
  rw [hsle] at hsl hv ⊢
  clear hsle
  go_enter Try.func8, Try.ntmps8
  by_cases k1 : a < 0
  · go_wp2_with (first | (go_at_call 21; go_loud (refine (none_ok g bm mo _ lo z _ HI.out).mono ?_; rintro en w1 ⟨rfl, e1⟩; rw [e1]; clear e1)))
    go_ret
    exact ⟨rfl, rfl⟩
  by_cases k2 : 65535 < a
  · go_wp2_with (first | (go_at_call 21; go_loud (refine (none_ok g bm mo _ lo z _ HI.out).mono ?_; rintro en w1 ⟨rfl, e1⟩; rw [e1]; clear e1)))
    go_ret
    exact ⟨rfl, rfl⟩
  by_cases k3 : b < 1
  · go_wp2_with (first | (go_at_call 21; go_loud (refine (none_ok g bm mo _ lo z _ HI.out).mono ?_; rintro en w1 ⟨rfl, e1⟩; rw [e1]; clear e1)))
    go_ret
    exact ⟨rfl, rfl⟩
  by_cases k4 : 256 < b
  · go_wp2_with (first | (go_at_call 21; go_loud (refine (none_ok g bm mo _ lo z _ HI.out).mono ?_; rintro en w1 ⟨rfl, e1⟩; rw [e1]; clear e1)))
    go_ret
    exact ⟨rfl, rfl⟩
  have k5 : 96 < sl := by omega
  clear hv
  have k6 : decide ((96 : Int) < (sl : Int)) = true := decide_eq_true (by omega)
  go_wp2_with (first | (go_at_call 21; go_loud (refine (none_ok g bm mo _ lo z _ HI.out).mono ?_; rintro en w1 ⟨rfl, e1⟩; rw [e1]; clear e1)))
  go_ret
  exact ⟨rfl, rfl⟩
end Go.Proofs.Ytoeaoanaefipaaa.Bf9
