/- Where most of any intervals meet. -/
import Derived.Test.YtfaikkhnlioajaaProg
import Derived.Below
import Derived.Deep.Draws
import Derived.Deep.AppendLies
import Derived.Maps.AppendAt
import Derived.OwnWalk
import Derived.Laws.BytesArg
import Derived.Laws.MakeOwn
import Derived.Laws.OwnMore
import Derived.Deep.OwnRows
import Derived.Tactics
import Derived.Lib.ConvBytes
import Derived.Laws.Slices
import Derived.WalkKit
import Derived.KernelRfl
import Derived.RowKit3
import Derived.Deep.LoopGhost
import Derived.Deep.QuietTactic
import Derived.BigQuiet
import Derived.WideLaws
import Derived.Deep.DeepCutAuto
import Derived.Deep.CutBlock
import Derived.Deep.RegionHeld3
import Derived.Laws.Rows
import Derived.Lib.AppendStr
import Derived.ArgAppend
import Derived.Laws.IdiomCopy
import Derived.OrdersHeld
import Derived.Laws.BitsLemmas
import Derived.RowKit
import Derived.RegionTactic
import Derived.ChangeAlike
import Derived.Outline
import Derived.LoopTactic
import Derived.WalkSpells
import Derived.WalkLawsBesides
import Derived.Lib.Hide
import Derived.StillTailTactics
import Derived.Deep.RegionWith
import Derived.Deep.RegionLaw
import Derived.Deep.DeepFit
import Derived.Deep.DeepMust
import Derived.Test.YtfaikkhnlioajaaWWords
import Derived.Test.YtfaikkhnlioajaaWLast
import Derived.Test.YtfaikkhnlioajaaWTab
import Derived.Test.YtfaikkhnlioajaaWFour
import Derived.Test.YtfaikkhnlioajaaWQPut
import Derived.Test.YtfaikkhnlioajaaWApart
import Derived.Test.YtfaikkhnlioajaaWArr
import Derived.Test.YtfaikkhnlioajaaWZeros
import Derived.Test.YtfaikkhnlioajaaWFoot
import Derived.Test.YtfaikkhnlioajaaWKept
import Derived.Test.YtfaikkhnlioajaaWShare
import Derived.Test.YtfaikkhnlioajaaWN
import Derived.Test.YtfaikkhnlioajaaWFootNe
import Derived.Test.YtfaikkhnlioajaaWAt
import Derived.Test.YtfaikkhnlioajaaWEqStruct
import Derived.Test.YtfaikkhnlioajaaWRepsOne
import Derived.Test.YtfaikkhnlioajaaWInv
import Derived.Test.YtfaikkhnlioajaaWInvWords
import Derived.Test.YtfaikkhnlioajaaWGuard
import Derived.Test.YtfaikkhnlioajaaWNEv
import Derived.Test.YtfaikkhnlioajaaWMore
import Derived.Test.YtfaikkhnlioajaaIv4
namespace Go.Proofs.Ytfaikkhnlioajaa.Iv5
open Go.RowKit Go.Proofs.YtfaikkhnlioajaaW.PrintWords Go.Proofs.YtfaikkhnlioajaaW.PrintLast Go.Proofs.YtfaikkhnlioajaaW.PrintMore 
attribute [local go_sem] max2_int min2_int max_two min_two max_three min_three max_four min_four
set_option linter.unusedVariables false
set_option linter.unusedSimpArgs false
open Go.Shelf Go.RowKit Go.Lib Go.Sort Go.Proofs.Ytfaikkhnlioajaa.QBase Go.Proofs.Ytfaikkhnlioajaa.Iv1 Go.Proofs.Ytfaikkhnlioajaa.Iv2 Go.Proofs.Ytfaikkhnlioajaa.Iv3 Go.Proofs.Ytfaikkhnlioajaa.Iv4
attribute [local go_sem] cellS1 frozenS1 cellS2 frozenS2
theorem EdgesAt.alloc {w : World} {p : Option Addr} {E : List (Int × Int)} (h : EdgesAt w p E) (o : Obj) : EdgesAt (w.alloc o) p E := fun j hj => by
  obtain ⟨ad, e, h1, h2⟩ := h j hj
  exact ⟨ad, e, (World.cell?_of_block (w := w) (Below.heap_alloc w o _ (World.block_lt_of_cell? w _ h1))).trans h1, (World.cell?_of_block (w := w) (Below.heap_alloc w o _ (World.block_lt_of_cell? w _ h2))).trans h2⟩
theorem add_block (ad : Addr) (k : Nat) : (ad.add k).block = ad.block := by unfold Addr.add; first | rfl | (split <;> rfl)
theorem EdgesAt.set {w : World} {p : Option Addr} {E : List (Int × Int)} (h : EdgesAt w p E) {q : Addr} (hq : ∀ ad, p = some ad → ad.block ≠ q.block) (v : Value) : EdgesAt (w.setCell q v) p E := fun j hj => by
  obtain ⟨ad, e, h1, h2⟩ := h j hj
  have hb : (ad.add (j * 2)).block ≠ q.block := by rw [add_block]; exact hq ad e
  exact ⟨ad, e, (World.cell?_of_block (w := w) (a := ad.add (j * 2)) (Below.heap_setCell w q v _ hb)).trans h1, (World.cell?_of_block (w := w) (a := ⟨(ad.add (j * 2)).block, (ad.add (j * 2)).off + 1, none⟩) (Below.heap_setCell w q v _ hb)).trans h2⟩
theorem sorted_perm (L : List (Int × Int)) : (sorted L).Perm (ends L) := List.mergeSort_perm ..
theorem sorted_one (L : List (Int × Int)) : ∀ e ∈ sorted L, e.2 = 1 ∨ e.2 = -1 := fun e he => ends_one L e ((sorted_perm L).mem_iff.mp he)
theorem sorted_len (L : List (Int × Int)) : (sorted L).length ≤ 2 * L.length := by rw [(sorted_perm L).length_eq]; exact ends_len L
theorem sorted_pair (L : List (Int × Int)) : (sorted L).Pairwise Iv2.le := by
  have h := List.pairwise_mergeSort (le := fun x y => !(ltOf cfE) y x) (fun a b c h1 h2 => by rw [ltE] at *; simp at *; omega) (fun a b => by rw [ltE, ltE]; simp; omega) (ends L)
  refine h.imp ?_
  intro a b hab
  rw [ltE] at hab
  unfold Iv2.le
  simp at hab
  omega
def S0 : St := ⟨0, 0, 0, 0, false⟩
theorem fold_take (E : List (Int × Int)) (i : Nat) (h : i < E.length) : (E.take (i + 1)).foldl stp S0 = stp ((E.take i).foldl stp S0) (E.getD i (0, 0)) := by
  rw [List.take_succ_eq_append_getElem h, List.foldl_append, List.getD_eq_getElem?_getD, List.getElem?_eq_getElem h]; rfl
set_option maxRecDepth 100000 in
set_option maxHeartbeats 8000000 in
theorem most_ok (w : World) (A : Option Addr) (c : Nat) (l : List S61) (hr : Kd.C k61 w A l.length l) (hn : l.length ≤ 200) :
    Calls Try.prog 43 #[.slice A l.length c] w fun en w' => en = .returned (.tuple #[.agg #[.int .i64 (sweep (sorted (l.map pr))).lo, .int .i64 (sweep (sorted (l.map pr))).hi], .int .i64 (sweep (sorted (l.map pr))).many]) ∧ Below w.heap.size w w' := by
  have hlen := sorted_len (l.map pr)
  rw [List.length_map] at hlen
  have hone := sorted_one (l.map pr)
  obtain ⟨E, hE⟩ : ∃ E, sorted (l.map pr) = E := ⟨_, rfl⟩
  rw [hE] at hlen hone
  have HONE := Aside0.mk hone
  have HEE := Aside0.mk hE
  clear hone
  obtain ⟨z2, hz2⟩ : ∃ z, z = w.heap.size := ⟨_, rfl⟩
  have HR := Aside0.mk hr
  clear hr
  rw [hE]
  clear hE hz2 z2
  go_enter Try.func43, Try.ntmps43
  go_upto_region 5 with (first | (go_at_call 65; go_loud (refine (edges_ok _ A c l (Kd.C_below HR.out (below_alloc (below_alloc (Below.refl _ _) _) _)) hn).mono ?_; rintro en w2 ⟨hb, p, cap, rfl, hEd, hp⟩; rw [HEE.out] at hEd ⊢; have ED := Aside0.mk hEd; have HP := Aside0.mk hp; have B0 : Aside0 (Below w.heap.size w w2) := ⟨below_step (below_alloc (below_alloc (Below.refl _ _) _) _) hb⟩; have K4 : Aside0 (w2.heap[w.heap.size + 1]? = some (.cells #[.int .i64 0, .int .i64 0] 61 (0, 0))) := ⟨blk_below (by have := blk_new (w.alloc (.cells #[.int .i64 0, .int .i64 0] 61)) (.cells #[.int .i64 0, .int .i64 0] 61); simpa using this) hb⟩; have K2 : Aside0 (w2.heap[w.heap.size]? = some (.cells #[.int .i64 0, .int .i64 0] 61 (0, 0))) := ⟨blk_below (blk_alloc (blk_new w _) _) hb⟩; clear hEd hp hb)))
  obtain ⟨g2, hg2⟩ : ∃ g, w.heap.size = g := ⟨_, rfl⟩
  obtain ⟨g4, hg4⟩ : ∃ g, w.heap.size + 1 = g := ⟨_, rfl⟩
  have HP4 : Aside0 (∀ ad, p = some ad → ad.block ≠ g4) := ⟨fun ad e => by have := HP.out ad e; simp at this; omega⟩
  have HP2 : Aside0 (∀ ad, p = some ad → ad.block ≠ g2) := ⟨fun ad e => by have := HP.out ad e; simp at this; omega⟩
  have N24 : g2 ≠ g4 := by omega
  have G4 : w.heap.size ≤ g4 := by omega
  have G2 : w.heap.size ≤ g2 := by omega
  rw [hg4] at K4 ⊢
  rw [hg2] at K2 ⊢
  have HG2 := Aside0.mk hg2
  have HG4 := Aside0.mk hg4
  clear hg2 hg4
  go_loopw [5, 6, 7, 13] (fun v5 v6 v7 v13 wr => ∃ (i : Nat) (lo hi many now : Int) (op : Bool), v5 = .int .i64 many ∧ v6 = .int .i64 now ∧ v7 = .bool op ∧ v13 = .int .i64 i ∧ i ≤ E.length ∧ -(i : Int) ≤ now ∧ now ≤ i ∧ 0 ≤ many ∧ many ≤ i ∧ Aside0 ((E.take i).foldl stp S0 = ⟨lo, hi, many, now, op⟩) ∧ Aside0 (wr.heap[g4]? = some (.cells #[.int .i64 lo, .int .i64 hi] 61 (0, 0))) ∧ Aside0 (wr.heap[g2]? = some (.cells #[.int .i64 0, .int .i64 0] 61 (0, 0))) ∧ Aside0 (EdgesAt wr p E) ∧ Aside0 (Below w.heap.size w wr)) (fun _ _ _ v13 _ => E.length - (intOf v13).toNat)
  case atStart => exact ⟨0, 0, 0, 0, 0, false, rfl, rfl, rfl, rfl, by omega, by omega, by omega, by omega, by omega, ⟨rfl⟩, K4, K2, ED, B0⟩
  case round =>
    clear K4 K2 ED B0
    obtain ⟨i, lo, hi, many, now, op, rfl, rfl, rfl, rfl, hi9, hn1, hn2, hm1, hm2, FO, K4, K2, ED, B0⟩ := hrel
    by_cases c14 : i < E.length
    · have c14b : decide ((i : Int) < (E.length : Int)) = true := decide_eq_true (by omega)
      obtain ⟨ad, e0, hx0, hx1⟩ := ED.out i c14
      subst e0
      have hmem : E.getD i (0, 0) ∈ E := by rw [List.getD_eq_getElem?_getD, List.getElem?_eq_getElem c14]; exact List.getElem_mem c14
      have hone := HONE.out _ hmem
      have hft := fold_take E i c14
      rw [FO.out] at hft
      obtain ⟨e, he⟩ : ∃ e, E.getD i (0, 0) = e := ⟨_, rfl⟩
      rw [he] at hx0 hx1 hone hft
      obtain ⟨a0, m0⟩ := e
      simp only at hx0 hx1 hone
      obtain ⟨nw, hnw⟩ : ∃ nw, now + m0 = nw := ⟨_, rfl⟩
      have hw : IntKind.i64.wrap (now + m0) = nw := by rw [IntKind.wrap_i64]; omega
      have NW := Aside0.mk hnw
      have HFT := Aside0.mk hft
      have iz0 : (0 : Int) ≤ (i : Int) := by omega
      have iz1 : (i : Int) < (E.length : Int) := by omega
      have q0 : wr.cell? ⟨g4, 0, none⟩ = some (.int .i64 lo) := (blk_cell K4.out 0).trans rfl
      have q1 : wr.cell? ⟨g4, 1, none⟩ = some (.int .i64 hi) := (blk_cell K4.out 1).trans rfl
      have f0 := blk_frozen K4.out 0
      have f1 := blk_frozen K4.out 1
      clear he hmem hft hnw
      by_cases h1 : nw > many
      · have h1b : decide (nw > many) = true := decide_eq_true h1
        have hs : stp ⟨lo, hi, many, now, op⟩ (a0, m0) = ⟨a0, 0, nw, nw, true⟩ := by unfold stp; rw [if_pos (by simp only; have := NW.out; omega)]; simp only [NW.out]
        have HS := Aside0.mk hs
        clear hs
        go_wp2
        go_roundw
        case rel => exact ⟨i + 1, a0, 0, nw, nw, true, rfl, rfl, rfl, by go_num, by omega, by have := NW.out; rcases hone with h | h <;> omega, by have := NW.out; rcases hone with h | h <;> omega, by omega, by have := NW.out; rcases hone with h | h <;> omega, ⟨HFT.out.trans HS.out⟩, ⟨blk_put (blk_put (blk_alloc K4.out _) 0 _ rfl) 1 _ rfl⟩, ⟨blk_far (blk_far (blk_alloc K2.out _) N24 _) N24 _⟩, ⟨EdgesAt.set (EdgesAt.set (EdgesAt.alloc ED.out _) HP4.out _) HP4.out _⟩, ⟨below_set (below_set (below_alloc B0.out _) G4) G4⟩⟩
        case measure => simp [intOf]; omega
      · have h1b : decide (nw > many) = false := decide_eq_false h1
        have hs0 : stp ⟨lo, hi, many, now, op⟩ (a0, m0) = if m0 < 0 ∧ op = true then ⟨lo, a0, many, nw, false⟩ else ⟨lo, hi, many, nw, op⟩ := by unfold stp; rw [if_neg (by simp only; have := NW.out; omega)]; simp only [NW.out]
        have HS0 := Aside0.mk hs0
        clear hs0
        rcases hone with rfl | rfl
        · have hs : stp ⟨lo, hi, many, now, op⟩ (a0, 1) = ⟨lo, hi, many, nw, op⟩ := by rw [HS0.out, if_neg (by omega)]
          have HS := Aside0.mk hs
          clear hs
          go_wp2
          go_roundw
          case rel => exact ⟨i + 1, lo, hi, many, nw, op, rfl, rfl, rfl, by go_num, by omega, by have := NW.out; omega, by have := NW.out; omega, by omega, by omega, ⟨HFT.out.trans HS.out⟩, ⟨blk_alloc K4.out _⟩, ⟨blk_alloc K2.out _⟩, ⟨EdgesAt.alloc ED.out _⟩, ⟨below_alloc B0.out _⟩⟩
          case measure => simp [intOf]; omega
        · cases op with
          | true =>
            have hs : stp ⟨lo, hi, many, now, true⟩ (a0, -1) = ⟨lo, a0, many, nw, false⟩ := by rw [HS0.out, if_pos (by simp)]
            have HS := Aside0.mk hs
            clear hs
            go_wp2
            go_roundw
            case rel => exact ⟨i + 1, lo, a0, many, nw, false, rfl, rfl, rfl, by go_num, by omega, by have := NW.out; omega, by have := NW.out; omega, by omega, by omega, ⟨HFT.out.trans HS.out⟩, ⟨blk_put (blk_alloc K4.out _) 1 _ rfl⟩, ⟨blk_far (blk_alloc K2.out _) N24 _⟩, ⟨EdgesAt.set (EdgesAt.alloc ED.out _) HP4.out _⟩, ⟨below_set (below_alloc B0.out _) G4⟩⟩
            case measure => simp [intOf]; omega
          | false =>
            have hs : stp ⟨lo, hi, many, now, false⟩ (a0, -1) = ⟨lo, hi, many, nw, false⟩ := by rw [HS0.out, if_neg (by simp)]
            have HS := Aside0.mk hs
            clear hs
            go_wp2
            go_roundw
            case rel => exact ⟨i + 1, lo, hi, many, nw, false, rfl, rfl, rfl, by go_num, by omega, by have := NW.out; omega, by have := NW.out; omega, by omega, by omega, ⟨HFT.out.trans HS.out⟩, ⟨blk_alloc K4.out _⟩, ⟨blk_alloc K2.out _⟩, ⟨EdgesAt.alloc ED.out _⟩, ⟨below_alloc B0.out _⟩⟩
            case measure => simp [intOf]; omega
    · have c14b : decide ((i : Int) < (E.length : Int)) = false := decide_eq_false (by omega)
      have hfo := FO.out
      rw [List.take_of_length_le (by omega)] at hfo
      have HSW : Aside0 (sweep E = ⟨lo, hi, many, now, op⟩) := ⟨hfo⟩
      clear hfo
      have q0 : wr.cell? ⟨g4, 0, none⟩ = some (.int .i64 lo) := (blk_cell K4.out 0).trans rfl
      have q1 : wr.cell? ⟨g4, 1, none⟩ = some (.int .i64 hi) := (blk_cell K4.out 1).trans rfl
      have f0 := blk_frozen K2.out 0
      have f1 := blk_frozen K2.out 1
      have r0 : wr.cell? ⟨g2, 0, none⟩ = some (.int .i64 0) := (blk_cell K2.out 0).trans rfl
      have r1 : wr.cell? ⟨g2, 1, none⟩ = some (.int .i64 0) := (blk_cell K2.out 1).trans rfl
      go_wp2
      refine bodyPost_ret (results_ct rfl _ _ g2 61 #[.int .i64 lo, .int .i64 hi] (0, 0) _ rfl (blk_put (blk_put K2.out 0 _ rfl) 1 _ rfl) Try.underlying61 rfl (by kernel_rfl)) rfl ?_
      refine ⟨?_, below_set (below_set B0.out G2) G2⟩
      rw [HSW.out]
      rfl
end Go.Proofs.Ytfaikkhnlioajaa.Iv5
