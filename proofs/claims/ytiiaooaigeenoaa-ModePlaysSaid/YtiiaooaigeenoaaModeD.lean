/- What each act comes to, by name. -/
import Derived.Test.YtiiaooaigeenoaaProg
import Derived.Below
import Derived.Deep.Draws
import Derived.Deep.AppendLies
import Derived.Maps.AppendAt
import Derived.OwnWalk
import Derived.Laws.BytesArg
import Derived.Laws.MakeOwn
import Derived.Laws.OwnMore
import Derived.Deep.OwnRows
import Derived.Tactics
import Derived.Lib.ConvBytes
import Derived.Laws.Slices
import Derived.WalkKit
import Derived.KernelRfl
import Derived.RowKit3
import Derived.Deep.LoopGhost
import Derived.Deep.QuietTactic
import Derived.BigQuiet
import Derived.WideLaws
import Derived.Deep.DeepCutAuto
import Derived.Deep.CutBlock
import Derived.Deep.RegionHeld3
import Derived.Laws.Rows
import Derived.Lib.AppendStr
import Derived.ArgAppend
import Derived.Laws.IdiomCopy
import Derived.OrdersHeld
import Derived.Laws.BitsLemmas
import Derived.RowKit
import Derived.RegionTactic
import Derived.ChangeAlike
import Derived.Outline
import Derived.LoopTactic
import Derived.WalkSpells
import Derived.WalkLawsBesides
import Derived.Lib.Hide
import Derived.StillTailTactics
import Derived.Deep.RegionWith
import Derived.Deep.RegionLaw
import Derived.Deep.DeepFit
import Derived.Deep.DeepMust
import Derived.Test.YtiiaooaigeenoaaWWords
import Derived.Test.YtiiaooaigeenoaaWLast
import Derived.Test.YtiiaooaigeenoaaWTab
import Derived.Test.YtiiaooaigeenoaaWFour
import Derived.Test.YtiiaooaigeenoaaWQPut
import Derived.Test.YtiiaooaigeenoaaWApart
import Derived.Test.YtiiaooaigeenoaaWArr
import Derived.Test.YtiiaooaigeenoaaWZeros
import Derived.Test.YtiiaooaigeenoaaWFoot
import Derived.Test.YtiiaooaigeenoaaWKept
import Derived.Test.YtiiaooaigeenoaaWShare
import Derived.Test.YtiiaooaigeenoaaWN
import Derived.Test.YtiiaooaigeenoaaWFootNe
import Derived.Test.YtiiaooaigeenoaaWAt
import Derived.Test.YtiiaooaigeenoaaWEqStruct
import Derived.Test.YtiiaooaigeenoaaWRepsOne
import Derived.Test.YtiiaooaigeenoaaWInv
import Derived.Test.YtiiaooaigeenoaaWInvWords
import Derived.Test.YtiiaooaigeenoaaWGuard
import Derived.Test.YtiiaooaigeenoaaWNEv
import Derived.Test.YtiiaooaigeenoaaWMore
import Derived.Test.YtiiaooaigeenoaaMode8
import Derived.Test.YtiiaooaigeenoaaMode9
namespace Go.Proofs.Ytiiaooaigeenoaa.ModeD
open Go.RowKit Go.Proofs.YtiiaooaigeenoaaW.PrintWords Go.Proofs.YtiiaooaigeenoaaW.PrintLast Go.Proofs.YtiiaooaigeenoaaW.PrintMore 
attribute [local go_sem] max2_int min2_int max_two min_two max_three min_three max_four min_four
set_option linter.unusedVariables false
set_option linter.unusedSimpArgs false
open Go.Proofs.Ytiiaooaigeenoaa.QBase Go.Proofs.Ytiiaooaigeenoaa.Sch Go.Proofs.Ytiiaooaigeenoaa.Mode1 Go.Proofs.Ytiiaooaigeenoaa.Mode2 Go.Proofs.Ytiiaooaigeenoaa.Mode7 Go.Proofs.Ytiiaooaigeenoaa.Mode8 Go.Proofs.Ytiiaooaigeenoaa.Mode9
theorem set_to (g : Nat) (n f s dl ks ee wd rh sl cp i md id : Int) (r a b c : Int) (z w : World) (hI : IsS43 z w g n f s dl ks ee wd rh sl cp i md id true) (hB : Below z.heap.size z w) (h : setF md id r = (a, b, c)) : Calls Try.prog 10 #[.pointer (some ⟨g, 0, none⟩), .int .i64 r] w fun en w' => en = .returned (.int .i64 a) ∧ IsS43 z w' g n f s dl ks ee wd rh sl cp i b c true ∧ Below z.heap.size z w' ∧ KeepBut w w' g none := by
  have := set_any g n f s dl ks ee wd rh sl cp i md id r z w hI hB 
  rw [h] at this
  exact this
theorem rset_to (g : Nat) (n f s dl ks ee wd rh sl cp i md id : Int) (r a b c : Int) (z w : World) (hI : IsS53 z w g n f s dl ks ee wd rh sl cp i md id) (hB : Below z.heap.size z w) (h : setF md id r = (a, b, c)) : Calls Try.prog 19 #[.pointer (some ⟨g, 0, none⟩), .int .i64 r] w fun en w' => en = .returned (.int .i64 a) ∧ IsS53 z w' g n f s dl ks ee wd rh sl cp i b c ∧ Below z.heap.size z w' ∧ KeepBut w w' g none := by
  have := rset_any g n f s dl ks ee wd rh sl cp i md id r z w hI hB 
  rw [h] at this
  exact this
theorem rwatch_to (g : Nat) (n f s dl ks ee wd rh sl cp i md id : Int) (near a : Int) (z w : World) (hI : IsS53 z w g n f s dl ks ee wd rh sl cp i md id) (hB : Below z.heap.size z w) (hk : Ok n f s dl ks ee wd rh sl cp) (m0 : 0 ≤ md) (m1 : md ≤ 4) (h : watchF n f md near = a) : Calls Try.prog 20 #[.pointer (some ⟨g, 0, none⟩), .int .i64 near] w fun en w' => en = .returned (.int .i64 a) ∧ IsS53 z w' g n f s dl ks ee wd rh sl cp i a id ∧ Below z.heap.size z w' ∧ KeepBut w w' g none := by
  have := rwatch_any g n f s dl ks ee wd rh sl cp i md id near z w hI hB hk m0 m1
  rw [h] at this
  exact this
theorem rround_to (g : Nat) (n f s dl ks ee wd rh sl cp i md id : Int) (near : Int) (ag : Bool) (a b : Int) (z w : World) (hI : IsS53 z w g n f s dl ks ee wd rh sl cp i md id) (hB : Below z.heap.size z w) (hk : Ok n f s dl ks ee wd rh sl cp) (i0 : 0 ≤ i) (i1 : i < n) (j0 : 0 ≤ id) (jm : id ≤ 1000000) (m0 : 0 ≤ md) (m1 : md ≤ 4) (h : roundF (pat n s dl wd rh sl i) n f md id near ag = (a, b)) : Calls Try.prog 21 #[.pointer (some ⟨g, 0, none⟩), .int .i64 near, .bool ag] w fun en w' => en = .returned (.int .i64 a) ∧ IsS53 z w' g n f s dl ks ee wd rh sl cp i a b ∧ Below z.heap.size z w' ∧ KeepBut w w' g none := by
  have := rround_any g n f s dl ks ee wd rh sl cp i md id near ag z w hI hB hk i0 i1 j0 jm m0 m1
  rw [h] at this
  exact this
theorem listen_to (g : Nat) (n f s dl ks ee wd rh sl cp i md id : Int) (qu : Int) (an lb : Bool) (z w : World) (hI : IsS43 z w g n f s dl ks ee wd rh sl cp i md id true) (hB : Below z.heap.size z w) (hk : Ok n f s dl ks ee wd rh sl cp) (i0 : 0 ≤ i) (i1 : i < n) (h1 : qu ≤ 9223372036854775807) (h : listB (qt n s wd rh sl) (n * s) i md qu an = lb) : Calls Try.prog 17 #[.pointer (some ⟨g, 0, none⟩), .int .i64 qu, .bool an] w fun en w' => en = .returned (.bool lb) ∧ IsS43 z w' g n f s dl ks ee wd rh sl cp i md id true ∧ Below z.heap.size z w' ∧ KeepBut w w' g none := by
  have := listen_any g n f s dl ks ee wd rh sl cp i md id qu an z w hI hB hk i0 i1 h1
  rw [h] at this
  exact this
theorem rlisten_to (g : Nat) (n f s dl ks ee wd rh sl cp i md id : Int) (qu : Int) (an lb : Bool) (z w : World) (hI : IsS53 z w g n f s dl ks ee wd rh sl cp i md id) (hB : Below z.heap.size z w) (hk : Ok n f s dl ks ee wd rh sl cp) (i0 : 0 ≤ i) (i1 : i < n) (h1 : qu ≤ 9223372036854775807) (h : listB (qt n s wd rh sl) (n * s) i md qu an = lb) : Calls Try.prog 22 #[.pointer (some ⟨g, 0, none⟩), .int .i64 qu, .bool an] w fun en w' => en = .returned (.bool lb) ∧ IsS53 z w' g n f s dl ks ee wd rh sl cp i md id ∧ Below z.heap.size z w' ∧ KeepBut w w' g none := by
  have := rlisten_any g n f s dl ks ee wd rh sl cp i md id qu an z w hI hB hk i0 i1 h1
  rw [h] at this
  exact this
end Go.Proofs.Ytiiaooaigeenoaa.ModeD
