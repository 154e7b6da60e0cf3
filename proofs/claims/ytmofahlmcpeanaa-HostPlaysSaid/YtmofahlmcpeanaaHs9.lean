/- The payloads of two hosts. -/
import Derived.Test.YtmofahlmcpeanaaProg
import Derived.Below
import Derived.Deep.Draws
import Derived.Deep.AppendLies
import Derived.Maps.AppendAt
import Derived.OwnWalk
import Derived.Laws.BytesArg
import Derived.Laws.MakeOwn
import Derived.Laws.OwnMore
import Derived.Deep.OwnRows
import Derived.Tactics
import Derived.Lib.ConvBytes
import Derived.Laws.Slices
import Derived.WalkKit
import Derived.KernelRfl
import Derived.RowKit3
import Derived.Deep.LoopGhost
import Derived.Deep.QuietTactic
import Derived.BigQuiet
import Derived.WideLaws
import Derived.Deep.DeepCutAuto
import Derived.Deep.CutBlock
import Derived.Deep.RegionHeld3
import Derived.Laws.Rows
import Derived.Lib.AppendStr
import Derived.ArgAppend
import Derived.Laws.IdiomCopy
import Derived.OrdersHeld
import Derived.Laws.BitsLemmas
import Derived.RowKit
import Derived.RegionTactic
import Derived.ChangeAlike
import Derived.Outline
import Derived.LoopTactic
import Derived.WalkSpells
import Derived.WalkLawsBesides
import Derived.Lib.Hide
import Derived.StillTailTactics
import Derived.Deep.RegionWith
import Derived.Deep.RegionLaw
import Derived.Deep.DeepFit
import Derived.Deep.DeepMust
import Derived.Test.YtmofahlmcpeanaaWWords
import Derived.Test.YtmofahlmcpeanaaWLast
import Derived.Test.YtmofahlmcpeanaaWTab
import Derived.Test.YtmofahlmcpeanaaWFour
import Derived.Test.YtmofahlmcpeanaaWQPut
import Derived.Test.YtmofahlmcpeanaaWApart
import Derived.Test.YtmofahlmcpeanaaWArr
import Derived.Test.YtmofahlmcpeanaaWZeros
import Derived.Test.YtmofahlmcpeanaaWFoot
import Derived.Test.YtmofahlmcpeanaaWKept
import Derived.Test.YtmofahlmcpeanaaWShare
import Derived.Test.YtmofahlmcpeanaaWN
import Derived.Test.YtmofahlmcpeanaaWFootNe
import Derived.Test.YtmofahlmcpeanaaWAt
import Derived.Test.YtmofahlmcpeanaaWEqStruct
import Derived.Test.YtmofahlmcpeanaaWRepsOne
import Derived.Test.YtmofahlmcpeanaaWInv
import Derived.Test.YtmofahlmcpeanaaWInvWords
import Derived.Test.YtmofahlmcpeanaaWGuard
import Derived.Test.YtmofahlmcpeanaaWNEv
import Derived.Test.YtmofahlmcpeanaaWMore
import Derived.Test.YtmofahlmcpeanaaHs8
namespace Go.Proofs.Ytmofahlmcpeanaa.Hs9
open Go.RowKit Go.Proofs.YtmofahlmcpeanaaW.PrintWords Go.Proofs.YtmofahlmcpeanaaW.PrintLast Go.Proofs.YtmofahlmcpeanaaW.PrintMore 
attribute [local go_sem] max2_int min2_int max_two min_two max_three min_three max_four min_four
set_option linter.unusedVariables false
set_option linter.unusedSimpArgs false
open Go.Joins Go.Proofs.Ytmofahlmcpeanaa.Hs1 Go.Proofs.Ytmofahlmcpeanaa.Hs2 Go.Proofs.Ytmofahlmcpeanaa.Hs3 Go.Proofs.Ytmofahlmcpeanaa.Hs4 Go.Proofs.Ytmofahlmcpeanaa.Hs5 Go.Proofs.Ytmofahlmcpeanaa.Hs6 Go.Proofs.Ytmofahlmcpeanaa.Hs7 Go.Proofs.Ytmofahlmcpeanaa.Hs8
attribute [local go_sem] cellS1 frozenS1 cellS2 frozenS2 cellS3 frozenS3 cellS4 frozenS4

def HasC (w : World) (Q : List Pt) : Prop := ∀ t ∈ Q, ∃ A c, t.2 = .slice A t.1.2.2.length c ∧ Kd.C (Kd.int .u8) w A t.1.2.2.length t.1.2.2
theorem has_own {z w : World} {Q : List Pt} (h : ∀ t ∈ Q, OwnB z w t) : HasC w Q := fun t ht => by
  obtain ⟨A, c, e, h1⟩ := h t ht
  exact ⟨A, c, e, row_C h1⟩
theorem has_arg {z w : World} {Q : List Pt} (h : ∀ t ∈ Q, ArgB z t) (hb : Below z.heap.size z w) : HasC w Q := fun t ht => by
  obtain ⟨A, c, e, h1⟩ := h t ht
  exact ⟨A, c, e, C_below h1 hb⟩
theorem pcells {w : World} {b n c : Nat} {A : Option Addr} {Q : List Pt} (h : RowAt w b 43 3 A n c (pf Q)) (i : Nat) (hi : i < Q.length) : ∃ g o, A = some ⟨g, o, none⟩ ∧ w.cell? ⟨g, o + i * 3, none⟩ = some (.int .i64 (Q[i]).1.1) ∧ w.cell? ⟨g, o + i * 3 + 1, none⟩ = some (.int .i64 (Q[i]).1.2.1) ∧ w.cell? ⟨g, o + i * 3 + 2, none⟩ = some (Q[i]).2 := by
  obtain ⟨p0, p1, p2⟩ := pf_get Q i hi
  have hl := pf_len Q
  obtain ⟨g, o, e, h0⟩ := h.cell (i * 3) (by omega)
  obtain ⟨g1, o1, e1, h1⟩ := h.cell (i * 3 + 1) (by omega)
  obtain ⟨g2, o2, e2, h2⟩ := h.cell (i * 3 + 2) (by omega)
  rw [e] at e1 e2
  cases e1
  cases e2
  rw [List.getElem?_eq_getElem (by omega)] at p0 p1 p2
  exact ⟨g, o, e, h0.trans p0, by rw [Nat.add_assoc]; exact h1.trans p1, by rw [Nat.add_assoc]; exact h2.trans p2⟩
set_option maxRecDepth 100000 in
set_option maxHeartbeats 2000000 in
theorem pays_yes (A B : Option Addr) (n c d : Nat) (P Q : List Pt) (w : World) (b1 b2 : Nat) (hP : RowAt w b1 43 3 A n c (pf P)) (hQ : RowAt w b2 43 3 B n d (pf Q)) (hl : P.length = n) (hl2 : Q.length = n) (he : P.map (·.1) = Q.map (·.1)) (hC : HasC w P) (hD : HasC w Q) (hn : n ≤ 100000) :
    Calls Try.prog 16 #[.slice A n c, .slice B n d] w fun en w' => en = .returned (.bool true) ∧ Below w.heap.size w w' := by
  have HP := Aside0.mk hP
  have HQ := Aside0.mk hQ
  have HL := Aside0.mk hl
  have HL2 := Aside0.mk hl2
  have HE := Aside0.mk he
  have HC := Aside0.mk hC
  have HD := Aside0.mk hD
  clear hP hQ hl hl2 he hC hD
  go_enter Try.func16, Try.ntmps16
  go_wp2
  go_loopw [5] (fun vi wr => ∃ i : Nat, vi = .int .i64 i ∧ i ≤ n ∧ Aside0 (Below w.heap.size w wr)) (fun vi _ => n - (intOf vi).toNat)
  case atStart => exact ⟨0, rfl, Nat.zero_le _, ⟨Below.refl _ _⟩⟩
  case round =>
    obtain ⟨i, rfl, hi, P1⟩ := hrel
    by_cases hin : i < n
    · have hib : decide ((i : Int) < (n : Int)) = true := decide_eq_true (by omega)
      have hp := HL.out
      have hq := HL2.out
      obtain ⟨ga, oa, ea, x0, x1, x2⟩ := pcells (HP.out.upd (S := fun _ => False) (Upd.of_below P1.out) (fun _ _ h => h)) i (by omega)
      obtain ⟨gb, ob, eb, y0, y1, y2⟩ := pcells (HQ.out.upd (S := fun _ => False) (Upd.of_below P1.out) (fun _ _ h => h)) i (by omega)
      subst ea
      subst eb
      have hpq : (P[i]).1 = (Q[i]).1 := by
        have h1 := congrArg (fun l => l[i]?) HE.out
        simp only [List.getElem?_map] at h1
        rw [List.getElem?_eq_getElem (by omega), List.getElem?_eq_getElem (by omega)] at h1
        simpa using h1
      obtain ⟨SA, ca, ev, hca⟩ := HC.out (P[i]) (List.getElem_mem _)
      obtain ⟨SB, cb, ew, hcb⟩ := HD.out (Q[i]) (List.getElem_mem _)
      rw [ev] at x2
      rw [ew] at y2
      rw [hpq] at x0 x1 x2 hca
      obtain ⟨⟨fr, rd, xs⟩, hpp⟩ : ∃ p, (Q[i]).1 = p := ⟨_, rfl⟩
      rw [hpp] at x0 x1 x2 y0 y1 y2 hca hcb
      dsimp only at x0 x1 x2 y0 y1 y2 hca hcb
      have q1 : ∀ m, (convert 29 9 (.slice SA xs.length ca)).run Try.prog (wr.drewN m) = .ok (.string (strOfNums xs)) (wr.drewN m) := fun m => Kd.C_string Try.underlying29 Try.underlying5 Try.underlying9 (C_below hca (pw_below_drewN P1.out m))
      have q2 : ∀ m, (convert 29 9 (.slice SB xs.length cb)).run Try.prog (wr.drewN m) = .ok (.string (strOfNums xs)) (wr.drewN m) := fun m => Kd.C_string Try.underlying29 Try.underlying5 Try.underlying9 (C_below hcb (pw_below_drewN P1.out m))
      have hz0 : (0 : Int) ≤ (i : Int) := by omega
      have hz1 : (i : Int) < (n : Int) := by omega
      have heq : ((strOfNums xs).toList == (strOfNums xs).toList) = true := by simp
      clear hca hcb ev ew hpq hpp hp hq
      go_upto_region 6 with (fail)
      go_quiet (fail)
      go_wp2
      go_roundw
      case rel => exact ⟨i + 1, by go_num, by omega, ⟨pw_below_drewN P1.out _⟩⟩
      case measure => simp [intOf]; omega
    · have hib : decide ((i : Int) < (n : Int)) = false := decide_eq_false (by omega)
      go_wp2
      go_ret
      exact ⟨rfl, P1.out⟩
end Go.Proofs.Ytmofahlmcpeanaa.Hs9
