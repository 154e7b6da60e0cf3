/- What the methods of a machine come to, in one word each. -/
import Derived.Test.YtiiaooaigeenoaaProg
import Derived.Below
import Derived.Deep.Draws
import Derived.Deep.AppendLies
import Derived.Maps.AppendAt
import Derived.OwnWalk
import Derived.Laws.BytesArg
import Derived.Laws.MakeOwn
import Derived.Laws.OwnMore
import Derived.Deep.OwnRows
import Derived.Tactics
import Derived.Lib.ConvBytes
import Derived.Laws.Slices
import Derived.WalkKit
import Derived.KernelRfl
import Derived.RowKit3
import Derived.Deep.LoopGhost
import Derived.Deep.QuietTactic
import Derived.BigQuiet
import Derived.WideLaws
import Derived.Deep.DeepCutAuto
import Derived.Deep.CutBlock
import Derived.Deep.RegionHeld3
import Derived.Laws.Rows
import Derived.Lib.AppendStr
import Derived.ArgAppend
import Derived.Laws.IdiomCopy
import Derived.OrdersHeld
import Derived.Laws.BitsLemmas
import Derived.RowKit
import Derived.RegionTactic
import Derived.ChangeAlike
import Derived.Outline
import Derived.LoopTactic
import Derived.WalkSpells
import Derived.WalkLawsBesides
import Derived.Lib.Hide
import Derived.StillTailTactics
import Derived.Deep.RegionWith
import Derived.Deep.RegionLaw
import Derived.Deep.DeepFit
import Derived.Deep.DeepMust
import Derived.Test.YtiiaooaigeenoaaWWords
import Derived.Test.YtiiaooaigeenoaaWLast
import Derived.Test.YtiiaooaigeenoaaWTab
import Derived.Test.YtiiaooaigeenoaaWFour
import Derived.Test.YtiiaooaigeenoaaWQPut
import Derived.Test.YtiiaooaigeenoaaWApart
import Derived.Test.YtiiaooaigeenoaaWArr
import Derived.Test.YtiiaooaigeenoaaWZeros
import Derived.Test.YtiiaooaigeenoaaWFoot
import Derived.Test.YtiiaooaigeenoaaWKept
import Derived.Test.YtiiaooaigeenoaaWShare
import Derived.Test.YtiiaooaigeenoaaWN
import Derived.Test.YtiiaooaigeenoaaWFootNe
import Derived.Test.YtiiaooaigeenoaaWAt
import Derived.Test.YtiiaooaigeenoaaWEqStruct
import Derived.Test.YtiiaooaigeenoaaWRepsOne
import Derived.Test.YtiiaooaigeenoaaWInv
import Derived.Test.YtiiaooaigeenoaaWInvWords
import Derived.Test.YtiiaooaigeenoaaWGuard
import Derived.Test.YtiiaooaigeenoaaWNEv
import Derived.Test.YtiiaooaigeenoaaWMore
import Derived.Test.YtiiaooaigeenoaaMode3
import Derived.Test.YtiiaooaigeenoaaMode4
import Derived.Test.YtiiaooaigeenoaaMode5
import Derived.Test.YtiiaooaigeenoaaMode6
namespace Go.Proofs.Ytiiaooaigeenoaa.Mode7
open Go.RowKit Go.Proofs.YtiiaooaigeenoaaW.PrintWords Go.Proofs.YtiiaooaigeenoaaW.PrintLast Go.Proofs.YtiiaooaigeenoaaW.PrintMore 
attribute [local go_sem] max2_int min2_int max_two min_two max_three min_three max_four min_four
set_option linter.unusedVariables false
set_option linter.unusedSimpArgs false
open Go.Proofs.Ytiiaooaigeenoaa.QBase Go.Proofs.Ytiiaooaigeenoaa.Sch Go.Proofs.Ytiiaooaigeenoaa.Mode1 Go.Proofs.Ytiiaooaigeenoaa.Mode2 Go.Proofs.Ytiiaooaigeenoaa.Mode3 Go.Proofs.Ytiiaooaigeenoaa.Mode4 Go.Proofs.Ytiiaooaigeenoaa.Mode5 Go.Proofs.Ytiiaooaigeenoaa.Mode6
/-- What a round makes of a mode and the idle rounds. -/
def roundF (p n f md id near : Int) (ag : Bool) : Int × Int := if md = 0 ∨ md = 1 then (md, id) else waitF p (stepF n f md near ag) id
def setF (md id r : Int) : Int × Int × Int := if r < 0 ∨ 1048576 ≤ r then (1, md, id) else if md = 1 then (0, 2, 0) else (0, md, id)
def watchF (n f md near : Int) : Int := if 3 ≤ md ∧ near < n - f then 2 else md
def listB (q r i md qu : Int) (an : Bool) : Bool := decide (md = 1 ∧ q ≤ qu ∧ (an = true ∨ (i + 1) * r ≤ qu - q))
theorem ok_n {n f s dl ks ee wd rh sl cp : Int} (hk : Ok n f s dl ks ee wd rh sl cp) : 1 ≤ n ∧ n ≤ 8 ∧ 0 ≤ f ∧ f ≤ 8 := by unfold Ok at hk; omega
theorem five (md : Int) (m0 : 0 ≤ md) (m1 : md ≤ 4) : md = 0 ∨ md = 1 ∨ md = 2 ∨ md = 3 ∨ md = 4 := by omega
theorem round_any (g : Nat) (n f s dl ks ee wd rh sl cp i md id near : Int) (ag : Bool) (z w : World) (hI : IsS43 z w g n f s dl ks ee wd rh sl cp i md id true) (hB : Below z.heap.size z w) (hk : Ok n f s dl ks ee wd rh sl cp) (i0 : 0 ≤ i) (i1 : i < n) (j0 : 0 ≤ id) (jm : id ≤ 1000000) (m0 : 0 ≤ md) (m1 : md ≤ 4) : Calls Try.prog 12 #[.pointer (some ⟨g, 0, none⟩), .int .i64 near, .bool ag] w fun en w' => en = .returned (.tuple #[.int .i64 (roundF (pat n s dl wd rh sl i) n f md id near ag).1, .int .i64 0]) ∧ IsS43 z w' g n f s dl ks ee wd rh sl cp i (roundF (pat n s dl wd rh sl i) n f md id near ag).1 (roundF (pat n s dl wd rh sl i) n f md id near ag).2 true ∧ Below z.heap.size z w' ∧ KeepBut w w' g none := by
  by_cases h1 : md = 0 ∨ md = 1
  · have e : (roundF (pat n s dl wd rh sl i) n f md id near ag) = (md, id) := by unfold roundF; rw [if_pos h1]
    rw [e]
    exact (round_still g n f s dl ks ee wd rh sl cp i md id near ag z w hI hB h1).mono fun en w' ⟨he, hw⟩ => ⟨he, hw ▸ hI, hw ▸ hB, hw ▸ KeepBut.refl _ _ _⟩
  · have e : (roundF (pat n s dl wd rh sl i) n f md id near ag) = waitF (pat n s dl wd rh sl i) (stepF n f md near ag) id := by unfold roundF; rw [if_neg h1]
    rw [e]
    have h5 := five md m0 m1
    by_cases he : n - f ≤ near
    · rcases h5 with rfl | rfl | rfl | rfl | rfl
      · exact absurd (Or.inl rfl) h1
      · exact absurd (Or.inr rfl) h1
      · rw [show stepF n f 2 near ag = 3 by unfold stepF; rw [if_pos rfl, if_pos he]]
        exact round_2e g n f s dl ks ee wd rh sl cp i id near ag z w hI hB hk i0 i1 j0 jm he
      · cases ag
        · rw [show stepF n f 3 near false = 3 by unfold stepF; rw [if_neg (by omega), if_pos he]; rfl]
          exact round_3f g n f s dl ks ee wd rh sl cp i id near z w hI hB hk i0 i1 j0 jm he
        · rw [show stepF n f 3 near true = 4 by unfold stepF; rw [if_neg (by omega), if_pos he]; rfl]
          exact round_3t g n f s dl ks ee wd rh sl cp i id near z w hI hB hk i0 i1 j0 jm he
      · cases ag
        · rw [show stepF n f 4 near false = 3 by unfold stepF; rw [if_neg (by omega), if_pos he]; rfl]
          exact round_4f g n f s dl ks ee wd rh sl cp i id near z w hI hB hk i0 i1 j0 jm he
        · rw [show stepF n f 4 near true = 4 by unfold stepF; rw [if_neg (by omega), if_pos he]; rfl]
          exact round_4t g n f s dl ks ee wd rh sl cp i id near z w hI hB hk i0 i1 j0 jm he
    · rcases h5 with rfl | rfl | rfl | rfl | rfl
      · exact absurd (Or.inl rfl) h1
      · exact absurd (Or.inr rfl) h1
      · rw [show stepF n f 2 near ag = 2 by unfold stepF; rw [if_pos rfl, if_neg he]]
        exact round_2n g n f s dl ks ee wd rh sl cp i id near ag z w hI hB hk i0 i1 j0 jm (by omega)
      · rw [show stepF n f 3 near ag = 2 by unfold stepF; rw [if_neg (by omega), if_neg he]]
        exact round_3n g n f s dl ks ee wd rh sl cp i id near ag z w hI hB hk i0 i1 j0 jm (by omega)
      · rw [show stepF n f 4 near ag = 2 by unfold stepF; rw [if_neg (by omega), if_neg he]]
        exact round_4n g n f s dl ks ee wd rh sl cp i id near ag z w hI hB hk i0 i1 j0 jm (by omega)
theorem set_any (g : Nat) (n f s dl ks ee wd rh sl cp i md id r : Int) (z w : World) (hI : IsS43 z w g n f s dl ks ee wd rh sl cp i md id true) (hB : Below z.heap.size z w) : Calls Try.prog 10 #[.pointer (some ⟨g, 0, none⟩), .int .i64 r] w fun en w' => en = .returned (.int .i64 (setF md id r).1) ∧ IsS43 z w' g n f s dl ks ee wd rh sl cp i (setF md id r).2.1 (setF md id r).2.2 true ∧ Below z.heap.size z w' ∧ KeepBut w w' g none := by
  by_cases h0 : r < 0
  · rw [show (setF md id r) = (1, md, id) by unfold setF; rw [if_pos (Or.inl h0)]]
    exact set_low g n f s dl ks ee wd rh sl cp i md id r z w hI hB h0
  · by_cases h1 : 1048576 ≤ r
    · rw [show (setF md id r) = (1, md, id) by unfold setF; rw [if_pos (Or.inr h1)]]
      exact set_high g n f s dl ks ee wd rh sl cp i md id r z w hI hB h1
    · by_cases hm : md = 1
      · rw [show (setF md id r) = (0, 2, 0) by unfold setF; rw [if_neg (by omega), if_pos hm]]
        exact set_yes g n f s dl ks ee wd rh sl cp i md id r z w hI hB (by omega) (by omega) hm
      · rw [show (setF md id r) = (0, md, id) by unfold setF; rw [if_neg (by omega), if_neg hm]]
        exact set_no g n f s dl ks ee wd rh sl cp i md id r z w hI hB (by omega) (by omega) hm
theorem watch_any (g : Nat) (n f s dl ks ee wd rh sl cp i md id near : Int) (z w : World) (hI : IsS43 z w g n f s dl ks ee wd rh sl cp i md id true) (hB : Below z.heap.size z w) (hk : Ok n f s dl ks ee wd rh sl cp) (m0 : 0 ≤ md) (m1 : md ≤ 4) : Calls Try.prog 14 #[.pointer (some ⟨g, 0, none⟩), .int .i64 near] w fun en w' => en = .returned (.tuple #[.int .i64 (watchF n f md near), .int .i64 0]) ∧ IsS43 z w' g n f s dl ks ee wd rh sl cp i (watchF n f md near) id true ∧ Below z.heap.size z w' ∧ KeepBut w w' g none := by
  obtain ⟨n0, n1, f0, f1⟩ := ok_n hk
  rcases five md m0 m1 with rfl | rfl | rfl | rfl | rfl
  · rw [show watchF n f 0 near = 0 by unfold watchF; rw [if_neg (by omega)]]
    exact watch_0 g n f s dl ks ee wd rh sl cp i id near z w hI hB n0 n1 f0 f1
  · rw [show watchF n f 1 near = 1 by unfold watchF; rw [if_neg (by omega)]]
    exact watch_1 g n f s dl ks ee wd rh sl cp i id near z w hI hB n0 n1 f0 f1
  · rw [show watchF n f 2 near = 2 by unfold watchF; rw [if_neg (by omega)]]
    exact watch_2 g n f s dl ks ee wd rh sl cp i id near z w hI hB n0 n1 f0 f1
  · by_cases he : n - f ≤ near
    · rw [show watchF n f 3 near = 3 by unfold watchF; rw [if_neg (by omega)]]
      exact watch_3e g n f s dl ks ee wd rh sl cp i id near z w hI hB n0 n1 f0 f1 he
    · rw [show watchF n f 3 near = 2 by unfold watchF; rw [if_pos (by omega)]]
      exact watch_3n g n f s dl ks ee wd rh sl cp i id near z w hI hB n0 n1 f0 f1 (by omega)
  · by_cases he : n - f ≤ near
    · rw [show watchF n f 4 near = 4 by unfold watchF; rw [if_neg (by omega)]]
      exact watch_4e g n f s dl ks ee wd rh sl cp i id near z w hI hB n0 n1 f0 f1 he
    · rw [show watchF n f 4 near = 2 by unfold watchF; rw [if_pos (by omega)]]
      exact watch_4n g n f s dl ks ee wd rh sl cp i id near z w hI hB n0 n1 f0 f1 (by omega)
theorem listen_any (g : Nat) (n f s dl ks ee wd rh sl cp i md id qu : Int) (an : Bool) (z w : World) (hI : IsS43 z w g n f s dl ks ee wd rh sl cp i md id true) (hB : Below z.heap.size z w) (hk : Ok n f s dl ks ee wd rh sl cp) (i0 : 0 ≤ i) (i1 : i < n) (h1 : qu ≤ 9223372036854775807) : Calls Try.prog 17 #[.pointer (some ⟨g, 0, none⟩), .int .i64 qu, .bool an] w fun en w' => en = .returned (.bool (listB (qt n s wd rh sl) (n * s) i md qu an)) ∧ IsS43 z w' g n f s dl ks ee wd rh sl cp i md id true ∧ Below z.heap.size z w' ∧ KeepBut w w' g none := by
  have hq : 0 ≤ qt n s wd rh sl := by
    have hk2 := hk
    unfold Ok at hk2
    have hq := qt_bd n s wd rh sl (by omega) (by omega) (by omega) (by omega) (by omega) (by omega) (by omega) (by omega) (by omega) (by omega)
    omega
  by_cases hm : md = 1
  · subst hm
    by_cases h0 : qu < 0
    · rw [show listB (qt n s wd rh sl) (n * s) i 1 qu an = false by unfold listB; exact decide_eq_false (by omega)]
      exact listen_neg g n f s dl ks ee wd rh sl cp i id qu an z w hI hB hk h0
    · by_cases h2 : qt n s wd rh sl ≤ qu
      · cases an
        · by_cases hd : (i + 1) * (n * s) ≤ qu - qt n s wd rh sl
          · rw [show listB (qt n s wd rh sl) (n * s) i 1 qu false = true by unfold listB; exact decide_eq_true ⟨rfl, h2, Or.inr hd⟩]
            exact listen_far_yes g n f s dl ks ee wd rh sl cp i id qu false z w hI hB hk i0 i1 (by omega) h1 h2 rfl hd
          · rw [show listB (qt n s wd rh sl) (n * s) i 1 qu false = false by unfold listB; exact decide_eq_false (by rintro ⟨_, _, h | h⟩; exact absurd h (by simp); exact hd h)]
            exact listen_far_no g n f s dl ks ee wd rh sl cp i id qu false z w hI hB hk i0 i1 (by omega) h1 h2 rfl hd
        · rw [show listB (qt n s wd rh sl) (n * s) i 1 qu true = true by unfold listB; exact decide_eq_true ⟨rfl, h2, Or.inl rfl⟩]
          exact listen_ans g n f s dl ks ee wd rh sl cp i id qu true z w hI hB hk (by omega) h1 h2 rfl
      · rw [show listB (qt n s wd rh sl) (n * s) i 1 qu an = false by unfold listB; exact decide_eq_false (by rintro ⟨_, h, _⟩; exact h2 h)]
        exact listen_low g n f s dl ks ee wd rh sl cp i id qu an z w hI hB hk (by omega) h1 (by omega)
  · rw [show (listB (qt n s wd rh sl) (n * s) i md qu an) = false by unfold listB; exact decide_eq_false (by rintro ⟨h, _⟩; exact hm h)]
    exact listen_mode g n f s dl ks ee wd rh sl cp i md id qu an z w hI hB hk hm
theorem round_bd (p n f md id near : Int) (ag : Bool) (m0 : 0 ≤ md) (m1 : md ≤ 4) (j0 : 0 ≤ id) : 0 ≤ (roundF p n f md id near ag).1 ∧ (roundF p n f md id near ag).1 ≤ 4 ∧ 0 ≤ (roundF p n f md id near ag).2 ∧ (roundF p n f md id near ag).2 ≤ id + 1 := by
  unfold roundF
  split
  · exact ⟨m0, m1, j0, by show id ≤ id + 1; omega⟩
  · have hs : 2 ≤ stepF n f md near ag ∧ stepF n f md near ag ≤ 4 := by unfold stepF; repeat' split <;> omega
    unfold waitF
    split
    · exact ⟨by decide, by decide, by decide, by show 0 ≤ id + 1; omega⟩
    · split
      · exact ⟨by show (0 : Int) ≤ 1; decide, by show (1 : Int) ≤ 4; decide, by show 0 ≤ id + 1; omega, by show id + 1 ≤ id + 1; omega⟩
      · exact ⟨by show 0 ≤ stepF n f md near ag; omega, hs.2, by show 0 ≤ id + 1; omega, by show id + 1 ≤ id + 1; omega⟩
theorem set_bd (md id r : Int) (m0 : 0 ≤ md) (m1 : md ≤ 4) (j0 : 0 ≤ id) : 0 ≤ (setF md id r).2.1 ∧ (setF md id r).2.1 ≤ 4 ∧ 0 ≤ (setF md id r).2.2 ∧ (setF md id r).2.2 ≤ id := by
  unfold setF
  split
  · exact ⟨m0, m1, j0, Int.le_refl _⟩
  · split
    · exact ⟨by decide, by decide, by decide, j0⟩
    · exact ⟨m0, m1, j0, Int.le_refl _⟩
theorem watch_bd (n f md near : Int) (m0 : 0 ≤ md) (m1 : md ≤ 4) : 0 ≤ watchF n f md near ∧ watchF n f md near ≤ 4 := by unfold watchF; split <;> omega
set_option maxRecDepth 100000 in
set_option maxHeartbeats 4000000 in
theorem awake_ok (w : World) : Calls Try.prog 9 #[] w fun en w' => en = .returned (.bool true) ∧ Below w.heap.size w w' := by
  have hk : Ok 3 0 400 1 16 400 400 1 2 8 := by unfold Ok; omega
  have HK := Aside0.mk hk
  clear hk
  go_enter Try.func9, Try.ntmps9
  go_wp2_with (first | (go_at_call 24; go_loud (refine (carillonlaw28_usual.calls 3 0 400 1 16 400 400 1 2 8 _ rfl).mono ?_; rintro en w1 ⟨rfl, hb1⟩; have HB1 := Aside0.mk hb1; clear hb1)) | (go_at_call 8; go_loud (refine (new_yes 3 0 400 1 16 400 400 1 2 8 0 _ HK.out (by omega) (by omega)).mono ?_; rintro en w2 ⟨g, rfl, hI2, hB2⟩; have HI2 := Aside0.mk hI2; have HB2 := Aside0.mk hB2; clear hI2 hB2; have tok1 : True := trivial)) | (go_at_call 15; have _t := tok1; go_loud (refine (mode_ok g 3 0 400 1 16 400 400 1 2 8 0 1 0 _ _ HI2.out HB2.out).mono ?_; rintro en w3 ⟨rfl, rfl⟩; clear tok1)) | (go_at_call 10; go_loud (refine (set_yes g 3 0 400 1 16 400 400 1 2 8 0 1 0 0 _ _ HI2.out HB2.out (by omega) (by omega) rfl).mono ?_; rintro en w4 ⟨rfl, hI4, hB4, hK4⟩; have HI4 := Aside0.mk hI4; have HB4 := Aside0.mk hB4; clear hI4 hB4 hK4)) | (go_at_call 15; go_loud (refine (mode_ok g 3 0 400 1 16 400 400 1 2 8 0 2 0 _ _ HI4.out HB4.out).mono ?_; rintro en w5 ⟨rfl, rfl⟩)))
  go_ret
  exact ⟨rfl, HB1.out.trans (HB4.out.mono HB1.out.size)⟩
end Go.Proofs.Ytiiaooaigeenoaa.Mode7
