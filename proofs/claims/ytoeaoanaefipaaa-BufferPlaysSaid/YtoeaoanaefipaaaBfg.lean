/- The reference of a buffer in memory. -/
import Derived.Test.YtoeaoanaefipaaaProg
import Derived.Below
import Derived.Deep.Draws
import Derived.Deep.AppendLies
import Derived.Maps.AppendAt
import Derived.OwnWalk
import Derived.Laws.BytesArg
import Derived.Laws.MakeOwn
import Derived.Laws.OwnMore
import Derived.Deep.OwnRows
import Derived.Tactics
import Derived.Lib.ConvBytes
import Derived.Laws.Slices
import Derived.WalkKit
import Derived.KernelRfl
import Derived.RowKit3
import Derived.Deep.LoopGhost
import Derived.Deep.QuietTactic
import Derived.BigQuiet
import Derived.WideLaws
import Derived.Deep.DeepCutAuto
import Derived.Deep.CutBlock
import Derived.Deep.RegionHeld3
import Derived.Laws.Rows
import Derived.Lib.AppendStr
import Derived.ArgAppend
import Derived.Laws.IdiomCopy
import Derived.OrdersHeld
import Derived.Laws.BitsLemmas
import Derived.RowKit
import Derived.RegionTactic
import Derived.ChangeAlike
import Derived.Outline
import Derived.LoopTactic
import Derived.WalkSpells
import Derived.WalkLawsBesides
import Derived.Lib.Hide
import Derived.StillTailTactics
import Derived.Deep.RegionWith
import Derived.Deep.RegionLaw
import Derived.Deep.DeepFit
import Derived.Deep.DeepMust
import Derived.Test.YtoeaoanaefipaaaWWords
import Derived.Test.YtoeaoanaefipaaaWLast
import Derived.Test.YtoeaoanaefipaaaWTab
import Derived.Test.YtoeaoanaefipaaaWFour
import Derived.Test.YtoeaoanaefipaaaWQPut
import Derived.Test.YtoeaoanaefipaaaWApart
import Derived.Test.YtoeaoanaefipaaaWArr
import Derived.Test.YtoeaoanaefipaaaWZeros
import Derived.Test.YtoeaoanaefipaaaWFoot
import Derived.Test.YtoeaoanaefipaaaWKept
import Derived.Test.YtoeaoanaefipaaaWShare
import Derived.Test.YtoeaoanaefipaaaWN
import Derived.Test.YtoeaoanaefipaaaWFootNe
import Derived.Test.YtoeaoanaefipaaaWAt
import Derived.Test.YtoeaoanaefipaaaWEqStruct
import Derived.Test.YtoeaoanaefipaaaWRepsOne
import Derived.Test.YtoeaoanaefipaaaWInv
import Derived.Test.YtoeaoanaefipaaaWInvWords
import Derived.Test.YtoeaoanaefipaaaWGuard
import Derived.Test.YtoeaoanaefipaaaWNEv
import Derived.Test.YtoeaoanaefipaaaWMore
import Derived.Test.YtoeaoanaefipaaaBfe
namespace Go.Proofs.Ytoeaoanaefipaaa.Bfg
open Go.RowKit Go.Proofs.YtoeaoanaefipaaaW.PrintWords Go.Proofs.YtoeaoanaefipaaaW.PrintLast Go.Proofs.YtoeaoanaefipaaaW.PrintMore 
attribute [local go_sem] max2_int min2_int max_two min_two max_three min_three max_four min_four
set_option linter.unusedVariables false
set_option linter.unusedSimpArgs false
open Go.Maps Go.ChangeMaps Go.Proofs.Ytoeaoanaefipaaa.Bf1 Go.Proofs.Ytoeaoanaefipaaa.Bf2 Go.Proofs.Ytoeaoanaefipaaa.Bf3 Go.Proofs.Ytoeaoanaefipaaa.BfP Go.Proofs.Ytoeaoanaefipaaa.Bf4 Go.Proofs.Ytoeaoanaefipaaa.Bf5 Go.Proofs.Ytoeaoanaefipaaa.Bf6 Go.Proofs.Ytoeaoanaefipaaa.Bf7 Go.Proofs.Ytoeaoanaefipaaa.Bf8 Go.Proofs.Ytoeaoanaefipaaa.Bf9 Go.Proofs.Ytoeaoanaefipaaa.BfN Go.Proofs.Ytoeaoanaefipaaa.Bfa Go.Proofs.Ytoeaoanaefipaaa.BfQ Go.Proofs.Ytoeaoanaefipaaa.Bfb Go.Proofs.Ytoeaoanaefipaaa.Bfc Go.Proofs.Ytoeaoanaefipaaa.Bfd Go.Proofs.Ytoeaoanaefipaaa.Bfe
attribute [local go_sem] cellS1 frozenS1 cellS2 frozenS2 cellS3 frozenS3 cellS4 frozenS4 cellS5 frozenS5 cellS6 frozenS6

/-- An item of the reference and its slice of bytes. -/
abbrev Rt := It × Value
def rf (P : List Rt) : List Value := P.flatMap fun p => [.int .i64 p.1.1, .int .i64 p.1.2.1, p.2]
def its (P : List Rt) : List It := P.map (·.1)
theorem its_len (P : List Rt) : (its P).length = P.length := by unfold its; simp
theorem rf_len (P : List Rt) : (rf P).length = P.length * 3 := by
  unfold rf
  induction P with
  | nil => rfl
  | cons p P ih => rw [List.flatMap_cons, List.length_append, ih, List.length_cons]; simp; omega
theorem rf_append (P R : List Rt) : rf (P ++ R) = rf P ++ rf R := by unfold rf; simp
theorem rf_at (P : List Rt) (d : Nat) (hd : d < P.length) : (rf P)[d * 3]? = some (.int .i64 (P[d]).1.1) ∧ (rf P)[d * 3 + 1]? = some (.int .i64 (P[d]).1.2.1) ∧ (rf P)[d * 3 + 2]? = some (P[d]).2 := by
  induction P generalizing d with
  | nil => exact absurd hd (Nat.not_lt_zero _)
  | cons p P ih =>
    cases d with
    | zero => exact ⟨rfl, rfl, rfl⟩
    | succ d =>
      have := ih d (by simpa using hd)
      refine ⟨?_, ?_, ?_⟩
      · rw [show (d + 1) * 3 = d * 3 + 1 + 1 + 1 by omega]; exact this.1
      · rw [show (d + 1) * 3 + 1 = d * 3 + 1 + 1 + 1 + 1 by omega]; exact this.2.1
      · rw [show (d + 1) * 3 + 2 = d * 3 + 2 + 1 + 1 + 1 by omega]; exact this.2.2
theorem rf_take (P : List Rt) (m : Nat) : (rf P).take (m * 3) = rf (P.take m) := by
  induction P generalizing m with
  | nil => simp [rf]
  | cons p P ih =>
    cases m with
    | zero => simp [rf]
    | succ m =>
      have := ih m
      unfold rf at *
      rw [List.take_succ_cons, List.flatMap_cons, List.flatMap_cons, ← this, show (m + 1) * 3 = m * 3 + 1 + 1 + 1 by omega]; rfl
theorem rf_drop (P : List Rt) (m : Nat) : (rf P).drop (m * 3) = rf (P.drop m) := by
  induction P generalizing m with
  | nil => simp [rf]
  | cons p P ih =>
    cases m with
    | zero => simp [rf]
    | succ m =>
      have := ih m
      unfold rf at *
      rw [List.drop_succ_cons, List.flatMap_cons, ← this, show (m + 1) * 3 = m * 3 + 1 + 1 + 1 by omega]; rfl
def RBytes (z w : World) (p : Rt) : Prop := w.ownsRow z.heap.size 5 1 p.2 p.1.2.2.length (p.1.2.2.map (Value.int .u8))
/-- The reference's buffer in memory. -/
def IsR (z w : World) (h : Nat) (mo : Int) (P : List Rt) (lo : Int) (A : Option Addr) (c : Nat) : Prop :=
  w.heap[h]? = some (.cells #[.int .i64 mo, .slice A P.length c, .int .i64 lo] 49 (0, 0)) ∧ z.heap.size ≤ h ∧ w.ownsRow z.heap.size 60 3 (.slice A P.length c) P.length (rf P) ∧ ∀ p ∈ P, RBytes z w p
theorem not_kind {t : TypeId} (cs : Array Value) (h : t ≠ 39 ∧ t ≠ 53) : ¬ BufKind (.cells cs t (0, 0)) := by
  rintro (k | ⟨cs', t', fr, e, ht⟩)
  · exact k _ _ _ rfl
  · cases e
    rcases ht with e | e
    · exact h.1 e
    · exact h.2 e
theorem IsR.keep {z a b : World} {h : Nat} {mo : Int} {P : List Rt} {lo : Int} {A : Option Addr} {c : Nat} (k : IsR z a h mo P lo A c) (hk : Keep z a b) : IsR z b h mo P lo A c :=
  ⟨(hk.block h (blk_lt k.1) (Or.inr ⟨_, k.1, not_kind _ (by decide)⟩)).trans k.1, k.2.1, own_keep k.2.2.1 (by decide) hk, fun p hp => own_keep (k.2.2.2 p hp) (by decide) hk⟩
theorem IsR.below {z a b : World} {h : Nat} {mo : Int} {P : List Rt} {lo : Int} {A : Option Addr} {c : Nat} (k : IsR z a h mo P lo A c) (hb : Below a.heap.size a b) : IsR z b h mo P lo A c := k.keep (Keep.of_below hb)
theorem buf_upd {z w w' : World} {g h : Nat} {mo : Int} {L : List It} {lo : Int} {m : Nat} {cs : Array Value} (k : IsBuf z w g mo L lo m) (hh : w.heap[h]? = some (.cells cs 49 (0, 0))) (hu : Upd (fun j => j = h) w w') : IsBuf z w' g mo L lo m :=
  k.kept (upd_one hu) (fun r er => by cases er; exact ⟨_, hh, not_kind _ (by decide)⟩)
theorem rit {z w : World} {h : Nat} {mo : Int} {P : List Rt} {lo : Int} {A : Option Addr} {c d : Nat} (k : IsR z w h mo P lo A c) (hd : d < P.length) : ∃ gr, A = some ⟨gr, 0, none⟩ ∧ w.cell? ⟨gr, d * 3, none⟩ = some (.int .i64 (P[d]).1.1) ∧ w.cell? ⟨gr, d * 3 + 1, none⟩ = some (.int .i64 (P[d]).1.2.1) ∧ w.cell? ⟨gr, d * 3 + 2, none⟩ = some (P[d]).2 := by
  obtain ⟨g, e, hb, hx⟩ := row_at_ k.2.2.1 (by omega)
  obtain ⟨f1, f2, f3⟩ := rf_at P d hd
  exact ⟨g, e, hx _ _ (by omega) f1, hx _ _ (by omega) f2, hx _ _ (by omega) f3⟩
theorem ref_new (mo : Int) (w : World) (h0 : 1 ≤ mo) (h1 : mo ≤ 64) : Calls Try.prog 16 #[.int .i64 mo] w fun en w' => ∃ h, en = .returned (.tuple #[.pointer (some ⟨h, 0, none⟩), .int .i64 0]) ∧ IsR w w' h mo [] 0 none 0 ∧ Below w.heap.size w w' := by
  go_enter Try.func16, Try.ntmps16
  go_wp2
  go_ret2
  exact ⟨_, rfl, ⟨blk_new _ _, Nat.le_refl _, World.ownsRow_nil _ _ _ _, fun p hp => absurd hp List.not_mem_nil⟩, below_alloc (Below.refl _ _) _⟩
theorem ref_new_no (mo : Int) (w : World) (h : ¬ (1 ≤ mo ∧ mo ≤ 64)) : Calls Try.prog 16 #[.int .i64 mo] w fun en w' => en = .returned (.tuple #[.pointer none, .int .i64 1]) ∧ w' = w := by
  by_cases h0 : 1 ≤ mo
  · have h1 : ¬ mo ≤ 64 := by omega
    go_enter Try.func16, Try.ntmps16
    go_wp2
    go_ret2
    exact ⟨rfl, rfl⟩
  · go_enter Try.func16, Try.ntmps16
    go_wp2
    go_ret2
    exact ⟨rfl, rfl⟩
theorem its_take (P : List Rt) (d : Nat) (hd : d < P.length) (a b : Int) : cnt (its (P.take (d + 1))) a b = cnt (its (P.take d)) a b + (if (P[d]).1.1 = a ∧ (P[d]).1.2.1 = b then 1 else 0) := by
  unfold its
  rw [List.take_add_one, List.getElem?_eq_getElem hd, List.map_append, cnt_append]
  show _ + cnt [(P[d]).1] a b = _
  rw [cnt_one]
set_option maxRecDepth 100000 in
set_option maxHeartbeats 1000000 in
theorem ref_count (h : Nat) (mo : Int) (P : List Rt) (lo : Int) (A : Option Addr) (c : Nat) (a b : Int) (z w : World) (k : IsR z w h mo P lo A c) (hl : P.length ≤ 64) : Calls Try.prog 20 #[.pointer (some ⟨h, 0, none⟩), .int .i64 a, .int .i64 b] w fun en w' => en = .returned (.int .i64 (cnt (its P) a b : Nat)) ∧ w' = w := by
  have HK := Aside0.mk k
  have c1 : w.cell? ⟨h, 1, none⟩ = some (.slice A P.length c) := (blk_cell k.1 1).trans rfl
  obtain ⟨R, hR⟩ : ∃ R, cnt (its P) a b = R := ⟨_, rfl⟩
  rw [hR]
  have HR := Aside0.mk hR
  clear k hR
  go_enter Try.func20, Try.ntmps20
  go_wp2
  go_loopw [7, 8] (fun vn vi wr => ∃ (d n : Nat), vi = .int .i64 d ∧ d ≤ P.length ∧ vn = .int .i64 n ∧ n ≤ d ∧ Aside0 (n = cnt (its (P.take d)) a b) ∧ wr = w) (fun _ vi _ => P.length - (intOf vi).toNat)
  case atStart => exact ⟨0, 0, rfl, Nat.zero_le _, rfl, Nat.le_refl _, ⟨rfl⟩, rfl⟩
  case round =>
    obtain ⟨d, n, rfl, hd, rfl, hnd, HN, rfl⟩ := hrel
    by_cases hdl : d < P.length
    · have hdb : decide ((d : Int) < (P.length : Int)) = true := decide_eq_true (by omega)
      obtain ⟨gr, e, r0, r1, r2⟩ := rit HK.out hdl
      subst e
      have hst := its_take P d hdl a b
      rw [← HN.out] at hst
      obtain ⟨p, hp⟩ : ∃ p, P[d] = p := ⟨_, rfl⟩
      rw [hp] at r0 r1 hst
      obtain ⟨⟨xa, xb, xs⟩, pv⟩ := p
      dsimp only at r0 r1 hst
      have hz0 : (0 : Int) ≤ (d : Int) := by omega
      have hz1 : (d : Int) < (P.length : Int) := by omega
      clear hp r2
      by_cases e1 : xa = a
      · have e1b : (xa == a) = true := by simp [e1]
        by_cases e2 : xb = b
        · have e2b : (xb == b) = true := by simp [e2]
          rw [if_pos ⟨e1, e2⟩] at hst
          have HST := Aside0.mk hst
          clear hst e1 e2
          go_wp2
          go_roundw
          case rel => exact ⟨d + 1, n + 1, by go_num, by omega, by go_num, by omega, ⟨HST.out.symm⟩, trivial⟩
          case measure => simp [intOf]; omega
        · have e2b : (xb == b) = false := by simp [e2]
          rw [if_neg (fun q => e2 q.2)] at hst
          have HST := Aside0.mk hst
          clear hst e1 e2
          go_wp2
          go_roundw
          case rel => exact ⟨d + 1, n, by go_num, by omega, rfl, by omega, ⟨HST.out.symm⟩, trivial⟩
          case measure => simp [intOf]; omega
      · have e1b : (xa == a) = false := by simp [e1]
        rw [if_neg (fun q => e1 q.1)] at hst
        have HST := Aside0.mk hst
        clear hst e1
        go_wp2
        go_roundw
        case rel => exact ⟨d + 1, n, by go_num, by omega, rfl, by omega, ⟨HST.out.symm⟩, trivial⟩
        case measure => simp [intOf]; omega
    · have hdb : decide ((d : Int) < (P.length : Int)) = false := decide_eq_false (by omega)
      obtain rfl : d = P.length := by omega
      have hn := HN.out
      rw [List.take_length, HR.out] at hn
      have HN2 := Aside0.mk hn
      clear hn
      go_wp2
      go_ret
      exact ⟨by rw [← HN2.out]; rfl, rfl⟩
end Go.Proofs.Ytoeaoanaefipaaa.Bfg
