/- Any acts on a buffer. -/
import Derived.Test.YtoeaoanaefipaaaProg
import Derived.Below
import Derived.Deep.Draws
import Derived.Deep.AppendLies
import Derived.Maps.AppendAt
import Derived.OwnWalk
import Derived.Laws.BytesArg
import Derived.Laws.MakeOwn
import Derived.Laws.OwnMore
import Derived.Deep.OwnRows
import Derived.Tactics
import Derived.Lib.ConvBytes
import Derived.Laws.Slices
import Derived.WalkKit
import Derived.KernelRfl
import Derived.RowKit3
import Derived.Deep.LoopGhost
import Derived.Deep.QuietTactic
import Derived.BigQuiet
import Derived.WideLaws
import Derived.Deep.DeepCutAuto
import Derived.Deep.CutBlock
import Derived.Deep.RegionHeld3
import Derived.Laws.Rows
import Derived.Lib.AppendStr
import Derived.ArgAppend
import Derived.Laws.IdiomCopy
import Derived.OrdersHeld
import Derived.Laws.BitsLemmas
import Derived.RowKit
import Derived.RegionTactic
import Derived.ChangeAlike
import Derived.Outline
import Derived.LoopTactic
import Derived.WalkSpells
import Derived.WalkLawsBesides
import Derived.Lib.Hide
import Derived.StillTailTactics
import Derived.Deep.RegionWith
import Derived.Deep.RegionLaw
import Derived.Deep.DeepFit
import Derived.Deep.DeepMust
import Derived.Test.YtoeaoanaefipaaaWWords
import Derived.Test.YtoeaoanaefipaaaWLast
import Derived.Test.YtoeaoanaefipaaaWTab
import Derived.Test.YtoeaoanaefipaaaWFour
import Derived.Test.YtoeaoanaefipaaaWQPut
import Derived.Test.YtoeaoanaefipaaaWApart
import Derived.Test.YtoeaoanaefipaaaWArr
import Derived.Test.YtoeaoanaefipaaaWZeros
import Derived.Test.YtoeaoanaefipaaaWFoot
import Derived.Test.YtoeaoanaefipaaaWKept
import Derived.Test.YtoeaoanaefipaaaWShare
import Derived.Test.YtoeaoanaefipaaaWN
import Derived.Test.YtoeaoanaefipaaaWFootNe
import Derived.Test.YtoeaoanaefipaaaWAt
import Derived.Test.YtoeaoanaefipaaaWEqStruct
import Derived.Test.YtoeaoanaefipaaaWRepsOne
import Derived.Test.YtoeaoanaefipaaaWInv
import Derived.Test.YtoeaoanaefipaaaWInvWords
import Derived.Test.YtoeaoanaefipaaaWGuard
import Derived.Test.YtoeaoanaefipaaaWNEv
import Derived.Test.YtoeaoanaefipaaaWMore
import Derived.Test.YtoeaoanaefipaaaBfk
namespace Go.Proofs.Ytoeaoanaefipaaa.Bfz
open Go.RowKit Go.Proofs.YtoeaoanaefipaaaW.PrintWords Go.Proofs.YtoeaoanaefipaaaW.PrintLast Go.Proofs.YtoeaoanaefipaaaW.PrintMore 
attribute [local go_sem] max2_int min2_int max_two min_two max_three min_three max_four min_four
set_option linter.unusedVariables false
set_option linter.unusedSimpArgs false
open Go.Maps Go.ChangeMaps Go.Proofs.Ytoeaoanaefipaaa.Bf1 Go.Proofs.Ytoeaoanaefipaaa.Bf2 Go.Proofs.Ytoeaoanaefipaaa.Bf3 Go.Proofs.Ytoeaoanaefipaaa.BfP Go.Proofs.Ytoeaoanaefipaaa.Bf4 Go.Proofs.Ytoeaoanaefipaaa.Bf5 Go.Proofs.Ytoeaoanaefipaaa.Bf6 Go.Proofs.Ytoeaoanaefipaaa.Bf7 Go.Proofs.Ytoeaoanaefipaaa.Bf8 Go.Proofs.Ytoeaoanaefipaaa.Bf9 Go.Proofs.Ytoeaoanaefipaaa.BfN Go.Proofs.Ytoeaoanaefipaaa.Bfa Go.Proofs.Ytoeaoanaefipaaa.BfQ Go.Proofs.Ytoeaoanaefipaaa.Bfb Go.Proofs.Ytoeaoanaefipaaa.Bfc Go.Proofs.Ytoeaoanaefipaaa.Bfd Go.Proofs.Ytoeaoanaefipaaa.Bfe Go.Proofs.Ytoeaoanaefipaaa.Bfg Go.Proofs.Ytoeaoanaefipaaa.Bfh Go.Proofs.Ytoeaoanaefipaaa.Bfi Go.Proofs.Ytoeaoanaefipaaa.Bfj Go.Proofs.Ytoeaoanaefipaaa.Bfk
attribute [local go_sem] cellS1 frozenS1 cellS2 frozenS2 cellS3 frozenS3 cellS4 frozenS4 cellS5 frozenS5 cellS6 frozenS6

theorem isbuf_lost {z w : World} {g : Nat} {mo : Int} {L : List It} {lo : Int} {m : Nat} (h : IsBuf z w g mo L lo m) : 0 ≤ lo ∧ lo ≤ m := by
  obtain ⟨bm, A, c, n, h1, h2, h3, h4, h5, h6, h7, h8, h9, h10, h11⟩ := h
  exact ⟨h10, h11⟩
theorem upd_all {z a b : World} {h : Nat} (hU : Upd (fun j => j = h) a b) (hB : Below z.heap.size z a) (hh : z.heap.size ≤ h) : Below z.heap.size z b := hB.grown (upd_one hU) hB.size (fun j e => by cases e; exact hh)
theorem keep_far45 {z W w1 : World} {bx : Nat} {cs : Array Value} (hk : Keep z W.drew w1) (hX : W.heap[bx]? = some (.cells cs 45 (0, 0))) : w1.heap[bx]? = some (.cells cs 45 (0, 0)) := (hk.block bx (blk_lt hX) (Or.inr ⟨_, hX, not_kind _ (by decide)⟩)).trans hX
theorem keepQ {z W w1 : World} {bx : Nat} {x y : Int} (hX : W.heap[bx]? = some (.cells #[.int .i64 x, .int .i64 y] 45 (0, 0))) (hk : Keep z W.drew w1) : w1.cell? ⟨bx, 0, none⟩ = some (.int .i64 x) ∧ w1.cell? ⟨bx, 1, none⟩ = some (.int .i64 y) := by
  have h1 := keep_far45 hk hX
  exact ⟨(blk_cell h1 0).trans rfl, (blk_cell h1 1).trans rfl⟩
theorem keepP {z W w1 : World} {bx k : Nat} {ad3 : Addr} {x y : Int} {v : Value} (hX : W.heap[bx]? = some (.cells #[.int .i64 x, .int .i64 y] 45 (0, 0))) (hb : (ad3.add k).block < z.heap.size) (hk : Keep z W.drew w1) (h3 : W.drew.cell? (ad3.add k) = some v) : w1.cell? ⟨bx, 0, none⟩ = some (.int .i64 x) ∧ w1.cell? ⟨bx, 1, none⟩ = some (.int .i64 y) ∧ w1.cell? (ad3.add k) = some v := by
  obtain ⟨h1, h2⟩ := keepQ hX hk
  exact ⟨h1, h2, (World.cell?_of_block (hk.block _ (World.block_lt_of_cell? _ _ h3) (Or.inl hb))).trans h3⟩
theorem updQ {w1 w2 : World} {bx h : Nat} {x y : Int} (hS : w1.cell? ⟨bx, 0, none⟩ = some (.int .i64 x) ∧ w1.cell? ⟨bx, 1, none⟩ = some (.int .i64 y)) (hU : Upd (fun j => j = h) w1 w2) (hb : bx ≠ h) : w2.cell? ⟨bx, 0, none⟩ = some (.int .i64 x) ∧ w2.cell? ⟨bx, 1, none⟩ = some (.int .i64 y) := ⟨hU.cellF hS.1 hb, hU.cellF hS.2 hb⟩
theorem updP {w1 w2 : World} {bx h k : Nat} {ad3 : Addr} {x y : Int} {v : Value} (hS : w1.cell? ⟨bx, 0, none⟩ = some (.int .i64 x) ∧ w1.cell? ⟨bx, 1, none⟩ = some (.int .i64 y) ∧ w1.cell? (ad3.add k) = some v) (hU : Upd (fun j => j = h) w1 w2) (hb : bx ≠ h) (ha : (ad3.add k).block ≠ h) : w2.cell? ⟨bx, 0, none⟩ = some (.int .i64 x) ∧ w2.cell? ⟨bx, 1, none⟩ = some (.int .i64 y) ∧ w2.cell? (ad3.add k) = some v := ⟨hU.cellF hS.1 hb, hU.cellF hS.2.1 hb, hU.cellF hS.2.2 ha⟩
theorem its_filter (P : List Rt) (f : It → Bool) : its (P.filter (fun p => f p.1)) = (its P).filter f := by
  induction P with
  | nil => rfl
  | cons p P ih =>
    unfold its at *
    rw [List.filter_cons, List.map_cons, List.filter_cons]
    by_cases h : f p.1 = true
    · rw [if_pos h, if_pos h, List.map_cons, ih]
    · rw [if_neg h, if_neg h, ih]
theorem gone_upd {a b : World} {n0 h : Nat} {v : Value} {G : List It} {cs : Array Value} (hg : Gone a n0 v G) (hU : Upd (fun j => j = h) a b) (hh : a.heap[h]? = some (.cells cs 49 (0, 0))) : Gone b n0 v G :=
  hg.kept (upd_one hU) (fun r er cs' t fr ht e => by
    cases er
    rw [hh] at e
    cases e
    rcases ht with e | e <;> cases e)
theorem rb_upd {z a b : World} {h : Nat} {p : Rt} {cs : Array Value} (hp : RBytes z a p) (hU : Upd (fun j => j = h) a b) (hh : a.heap[h]? = some (.cells cs 49 (0, 0))) : RBytes z b p :=
  World.ownsRow.kept hp (upd_one hU) (Or.inr (own_off hp hh (by decide)))
theorem ref_strs {z w : World} {n0 n c : Nat} {A : Option Addr} {Q : List Rt} {X : List (List Int)} (h : w.ownsRow n0 27 1 (.slice A n c) n (Q.map (·.2))) (hn : Q.length = n) (hb : ∀ p ∈ Q, RBytes z w p) (hX : Q.map (fun p => p.1.2.2) = X) (hl : ∀ p ∈ Q, p.1.2.2.length ≤ maxLen) : StrsAt w A X := fun i hi => by
  subst hX
  rw [List.length_map] at hi
  have hb2 := hb _ (List.getElem_mem hi)
  have hl2 := hl _ (List.getElem_mem hi)
  have hm : (Q.map (fun p => p.1.2.2)).getD i [] = (Q[i]).1.2.2 := by rw [List.getD_eq_getElem?_getD, List.getElem?_map, List.getElem?_eq_getElem hi]; rfl
  rw [hm]
  rcases h.2 with ⟨e, h0⟩ | ⟨g, cap, cur, e, hb3, hg, hnc, _, hs, ht⟩
  · omega
  · cases e
    obtain ⟨S, cS, eS⟩ := own_slice2 hb2
    have hb4 : w.ownsRow z.heap.size 5 1 (.slice S (Q[i]).1.2.2.length cS) (Q[i]).1.2.2.length ((Q[i]).1.2.2.map (Value.int .u8)) := by rw [← eS]; exact hb2
    refine ⟨_, S, cS, rfl, ?_, own_C (z := w) hb4 (Keep.refl _ _) hl2⟩
    have h3 : (Q.map (·.2))[i]? = some (Q[i]).2 := by rw [List.getElem?_map, List.getElem?_eq_getElem hi]; rfl
    rw [← ht, List.getElem?_take_of_lt (by omega), eS] at h3
    rw [show ((⟨g, 0, none⟩ : Addr).add i) = ⟨g, i, none⟩ by simp [Addr.add] <;> omega, blk_cell hg]
    simpa using h3
theorem isr_weak {z0 z w : World} {h : Nat} {mo : Int} {P : List Rt} {lo : Int} {A : Option Addr} {c : Nat} (k : IsR z w h mo P lo A c) (hz : z0.heap.size ≤ z.heap.size) : IsR z0 w h mo P lo A c :=
  ⟨k.1, Nat.le_trans hz k.2.1, Go.Joins.ownsRow_le k.2.2.1 hz, fun p hp => Go.Joins.ownsRow_le (k.2.2.2 p hp) hz⟩
set_option maxRecDepth 100000 in
set_option maxHeartbeats 4000000 in
theorem plays_good (A1 A2 A3 : Option Addr) (c1 c2 c3 n2 n3 : Nat) (mo : Int) (l1 : List Int) (x2 : Nat → Nat → Int) (sf : Nat → Option Addr) (cp : Nat → Nat) (bf : Nat → List Int) (w : World) (hr1 : Kd.C (Kd.int .u8) w A1 l1.length l1) (hr2 : Rd.IntsAt w A2 .i64 2 n2 x2) (hr3 : Rd.BytesAt w A3 n3 sf cp bf) (hw1 : ∀ x ∈ l1, (Lit.int .u8 x).wf = true) (hw2 : ∀ i j, i < n2 → j < 2 → (Lit.int .i64 (x2 i j)).wf = true) (hm1 : l1.length ≤ maxLen) (hm2 : n2 ≤ maxLen) (hm3 : n3 ≤ maxLen) (h0 : 1 ≤ mo) (h1 : mo ≤ 64) : Calls Try.prog 6 #[.int .i64 mo, .slice A1 l1.length c1, .slice A2 n2 c2, .slice A3 n3 c3] w fun en w' => en = .returned (.bool true) ∧ Below w.heap.size w w' := by
  have HR1 := Aside0.mk hr1
  have HR2 := Aside0.mk hr2
  have HR3 := Aside0.mk hr3
  have HW1 := Aside0.mk hw1
  have HW2 := Aside0.mk hw2
  unfold maxLen at hm1 hm2 hm3
  clear hr1 hr2 hr3 hw1 hw2
  go_enter Try.func6, Try.ntmps6
  go_upto_region 7 with (first | (go_at_call 7; go_loud (refine (buf_new mo _ h0 h1).mono ?_; rintro en w1 ⟨g, rfl, a1, a2⟩; have J1 := Aside0.mk a1; have J2 := Aside0.mk a2; clear a1 a2)) | (go_at_call 16; go_loud (refine (ref_new mo _ h0 h1).mono ?_; rintro en w2 ⟨h, rfl, a1, a2⟩; have K1 := Aside0.mk a1; have K2 := Aside0.mk a2; clear a1 a2)))
  have hm0 := h0
  go_wp2
  go_loopw [13] (fun vi wr => ∃ (k : Nat) (L : List It) (P : List Rt) (lo : Int) (A : Option Addr) (c : Nat), vi = .int .i64 k ∧ k ≤ 150 ∧ Aside0 (its P = L) ∧ Aside0 (IsBuf w wr g mo L lo (140 * k)) ∧ Aside0 (IsR w wr h mo P lo A c) ∧ Aside0 (Below w.heap.size w wr)) (fun vi _ => 150 - (intOf vi).toNat)
  case atStart => exact ⟨0, [], [], 0, none, 0, rfl, by omega, ⟨rfl⟩, ⟨J1.out.below K2.out⟩, ⟨isr_weak K1.out J2.out.size⟩, ⟨below_step J2.out K2.out⟩⟩
  case round =>
    clear J1 J2 K1 K2
    obtain ⟨k, L, P, lo, A, c, rfl, hk, EQ, Q1, Q2, Q3⟩ := hrel
    have h1 := hm0
    by_cases c5 : k < l1.length
    · have c5b : decide ((k : Int) < (l1.length : Int)) = true := decide_eq_true (by omega)
      by_cases c6 : k < n2
      · have c6b : decide ((k : Int) < (n2 : Int)) = true := decide_eq_true (by omega)
        by_cases c7 : k < n3
        · have c7b : decide ((k : Int) < (n3 : Int)) = true := decide_eq_true (by omega)
          by_cases c8 : k < 150
          · have c8b : decide ((k : Int) < 150) = true := decide_eq_true (by omega)
            obtain ⟨ad1, e1, hx1⟩ := Kd.at_int HR1.out (k : Int) (by omega) (by omega)
            cases e1
            rw [Int.toNat_natCast] at hx1
            obtain ⟨ad2, e2, hx2⟩ := HR2.out k c6
            subst e2
            obtain ⟨⟨ad3, e3, hx3⟩, hC, _, hbm, hbw⟩ := HR3.out k c7
            subst e3
            have hq := u8b (HW1.out _ (rd_mem l1 k c5))
            obtain ⟨kd, hkd⟩ : ∃ v, Go.Proofs.YtoeaoanaefipaaaW.PrintWords.rd l1 k = v := ⟨_, rfl⟩
            rw [hkd] at hx1 hq
            have h20 := hx2 0 (by omega)
            have h21 := hx2 1 (by omega)
            rw [add_one] at h21
            have hwx := HW2.out k 0 c6 (by omega)
            have hwy := HW2.out k 1 c6 (by omega)
            obtain ⟨x, hx⟩ : ∃ v, x2 k 0 = v := ⟨_, rfl⟩
            obtain ⟨y, hy⟩ : ∃ v, x2 k 1 = v := ⟨_, rfl⟩
            rw [hx] at h20 hwx
            rw [hy] at h21 hwy
            have hS : ∀ u ∈ bf k, 0 ≤ u ∧ u ≤ 255 := fun u hu => u8b (hbw u hu)
            obtain ⟨s, hs⟩ : ∃ s, bf k = s := ⟨_, rfl⟩
            rw [hs] at hx3 hC hbm hS
            obtain ⟨S0, hS0⟩ : ∃ S0, sf k = S0 := ⟨_, rfl⟩
            rw [hS0] at hx3 hC
            obtain ⟨cq, hcq⟩ : ∃ cq, cp k = cq := ⟨_, rfl⟩
            rw [hcq] at hx3
            have HX := Aside0.mk hwx
            have HY := Aside0.mk hwy
            have HC := Aside0.mk hC
            have HSB := Aside0.mk hS
            have HBM := Aside0.mk hbm
            have X3 := Aside0.mk hx3
            have X1 := Aside0.mk hx1
            have z20 : wr.cell? (ad2.add (k * 2)) = some (.int .i64 x) := cell_bel Q3.out h20
            have z21 := cell_bel Q3.out h21
            have kz0 : (0 : Int) ≤ (k : Int) := by omega
            have kz1 : (k : Int) < (l1.length : Int) := by omega
            have kz2 : (k : Int) < (n2 : Int) := by omega
            have kz3 : (k : Int) < (n3 : Int) := by omega
            have hmx : 140 * k + 66 < maxLen := by unfold maxLen; omega
            have HMX := Aside0.mk hmx
            have HHD : Aside0 ((ad3.add k).block ≠ h) := ⟨fun e => by have h1 := World.block_lt_of_cell? w _ hx3; have h2 := Q2.out.2.1; omega⟩
            have HXB : Aside0 ((ad3.add k).block < w.heap.size) := ⟨World.block_lt_of_cell? w _ hx3⟩
            clear hx1 hx2 hx3 hkd hx hy hs hS0 hcq hC hbm hbw hS h20 h21 hwx hwy hmx
            go_upto_region 11 with (fail)
            refine wp_gen (fun W => W.heap[wr.heap.size]? = some (.cells #[.int .i64 x, .int .i64 y] 45 (0, 0)) ∧ IsBuf w W g mo L lo (140 * k) ∧ IsR w W h mo P lo A c ∧ Below w.heap.size w W ∧ w.heap.size ≤ wr.heap.size ∧ h < wr.heap.size) ⟨blk_new _ _, Q1.out.alloc _, Q2.out.below (below_alloc (Below.refl _ _) _), below_alloc Q3.out _, Q3.out.size, blk_lt Q2.out.1⟩ ?_
            obtain ⟨bx, hbx⟩ : ∃ bx, wr.heap.size = bx := ⟨_, rfl⟩
            rw [hbx]
            clear z20 z21 Q1 Q2 Q3 hbx
            rintro W ⟨q1, q2, q3, q4, q5, q6⟩
            have XW := Aside0.mk q1
            have IB := Aside0.mk q2
            have RB := Aside0.mk q3
            have BB := Aside0.mk q4
            have HBX : Aside0 (bx ≠ h) := ⟨by omega⟩
            have HBW : Aside0 (w.heap.size ≤ bx) := ⟨q5⟩
            have w1 : W.cell? (ad1.add k) = some (.int .u8 kd) := cell_bel q4 X1.out
            have HOK : Aside0 (∀ x ∈ its P, ItOk x) := ⟨by rw [EQ.out]; exact q2.ok⟩
            have HPL : Aside0 (P.length ≤ 64) := ⟨by have h1 := q2.len; have h2 : P.length = L.length := (by rw [← EQ.out, its_len]); omega⟩
            have HLM : Aside0 ((P.length : Int) ≤ mo) := ⟨by have h1 := q2.len; have h2 : P.length = L.length := (by rw [← EQ.out, its_len]); omega⟩
            have HLO : Aside0 (0 ≤ lo ∧ lo ≤ 1000000) := ⟨by have h1 := isbuf_lost q2; omega⟩
            clear q1 q2 q3 q4 q5 q6
            obtain ⟨md, hmd⟩ : ∃ md : Int, kd % 5 = md := ⟨_, rfl⟩
            have hmr : 0 ≤ md ∧ md < 5 := by omega
            have hmt : kd.tmod 5 = md := by rw [Int.tmod_eq_emod_of_nonneg (by omega)]; exact hmd
            rcases (show md = 0 ∨ md = 1 ∨ md = 2 ∨ md = 3 ∨ md = 4 by omega) with hm | hm | hm | hm | hm
            · subst hm
              have hst : Aside0 True := ⟨trivial⟩
              go_upto_region 17 with (fail)
              have d0 : W.drew.cell? ⟨bx, 0, none⟩ = some (.int .i64 x) := (blk_cell XW.out 0).trans rfl
              have d1 : W.drew.cell? ⟨bx, 1, none⟩ = some (.int .i64 y) := (blk_cell XW.out 1).trans rfl
              have hX3 : W.drew.cell? (ad3.add k) = some (.slice S0 s.length cq) := cell_bel BB.out X3.out
              have hS0 : W.drew.cell? ⟨bx, 0, none⟩ = some (.int .i64 x) ∧ W.drew.cell? ⟨bx, 1, none⟩ = some (.int .i64 y) ∧ W.drew.cell? (ad3.add k) = some (.slice S0 s.length cq) := ⟨d0, d1, hX3⟩
              obtain ⟨PP, hPP⟩ : ∃ PP, putS mo L lo x y s = PP := ⟨_, rfl⟩
              have HPP := Aside0.mk hPP
              clear hPP
              go_region_held3 (fun U => U.cell? ⟨bx, 0, none⟩ = some (.int .i64 x) ∧ U.cell? ⟨bx, 1, none⟩ = some (.int .i64 y) ∧ U.cell? (ad3.add k) = some (.slice S0 s.length cq)) (first | exact hS2 | exact hS1 | exact hS0 | go_keep) (first | (go_at_call 8; go_loud (refine (buf_put g mo L lo (140 * k) x y S0 s cq w _ (IB.out.drewN 1) (fun U hU => C_below HC.out (hU.below (below_drew1 BB.out) (Nat.le_refl _))) HSB.out HMX.out HBM.out).mono ?_; rw [HPP.out]; rintro en w1 ⟨rfl, a1, a2⟩; have M1 := Aside0.mk a1; have M2 := Aside0.mk a2; have hS1 : w1.cell? ⟨bx, 0, none⟩ = some (.int .i64 x) ∧ w1.cell? ⟨bx, 1, none⟩ = some (.int .i64 y) ∧ w1.cell? (ad3.add k) = some (.slice S0 s.length cq) := keepP XW.out HXB.out a2 hX3; clear a1 a2)) | (go_at_call 17; go_loud (refine (ref_put h mo P lo A c x y S0 s cq w w1 ((RB.out.keep (Keep.of_below (below_drew1 (Below.refl _ _)))).keep M2.out) (fun U hU => C_below HC.out (upd_all hU (M2.out.below (below_drew1 BB.out) (Nat.le_refl _)) RB.out.2.1)) HSB.out HOK.out HPL.out HLM.out h1 HLO.out HBM.out).mono ?_; rw [EQ.out, HPP.out]; rintro en w2 ⟨P3, A3r, c3r, rfl, a1, a2, a3⟩; have R1 := Aside0.mk a1; have R2 := Aside0.mk a2; have R4 := Aside0.mk a3; have hS2 : w2.cell? ⟨bx, 0, none⟩ = some (.int .i64 x) ∧ w2.cell? ⟨bx, 1, none⟩ = some (.int .i64 y) ∧ w2.cell? (ad3.add k) = some (.slice S0 s.length cq) := updP hS1 a3 HBX.out HHD.out; clear a1 a2 a3)))
              go_upto_region 22 with (fail)
              obtain ⟨r1, L3, lo3⟩ := PP
              have I3 : Aside0 (IsBuf w w2 g mo L3 lo3 (140 * k + 66)) := ⟨buf_upd M1.out ((RB.out.keep (Keep.of_below (below_drew1 (Below.refl _ _)))).keep M2.out).1 R4.out⟩
              have E3 : Aside0 (its P3 = L3) := ⟨R1.out⟩
              have B3 : Aside0 (Below w.heap.size w w2) := ⟨upd_all R4.out (M2.out.below (below_drew1 BB.out) (Nat.le_refl _)) RB.out.2.1⟩
              have X3b : Aside0 (w2.heap[bx]? = some (.cells #[.int .i64 x, .int .i64 y] 45 (0, 0))) := ⟨R4.out.far (keep_far45 M2.out XW.out) HBX.out⟩
              refine wp_gen (fun V => IsBuf w V g mo L3 lo3 (140 * k + 66) ∧ IsR w V h mo P3 lo3 A3r c3r ∧ Below w.heap.size w V ∧ V.heap[bx]? = some (.cells #[.int .i64 x, .int .i64 y] 45 (0, 0))) ⟨I3.out, R2.out, B3.out, X3b.out⟩ ?_
              clear M1 M2 R1 R2 R4 hS0 hX3 d0 d1 I3 B3 X3b
              (try clear hS1 hS2)
              rintro W3 ⟨q1, q2, q3, q4⟩
              have I3 := Aside0.mk q1
              have R3 := Aside0.mk q2
              have B3 := Aside0.mk q3
              have X3 := Aside0.mk q4
              clear q1 q2 q3 q4
              have y0 : W3.cell? ⟨bx, 0, none⟩ = some (.int .i64 x) := (blk_cell X3.out 0).trans rfl
              have y1 : W3.cell? ⟨bx, 1, none⟩ = some (.int .i64 y) := (blk_cell X3.out 1).trans rfl
              have z1 : W3.cell? ⟨h, 1, none⟩ = some (.slice A3r P3.length c3r) := (blk_cell R3.out.1 1).trans rfl
              have z2 : W3.cell? ⟨h, 2, none⟩ = some (.int .i64 lo3) := (blk_cell R3.out.1 2).trans rfl
              have hpl3 : L3.length = P3.length := by rw [← E3.out, its_len]
              have hl64 : P3.length ≤ 64 := by have := I3.out.len; omega
              obtain ⟨pn, hpn⟩ : ∃ pn, P3.length = pn := ⟨_, rfl⟩
              obtain ⟨cc, hcc⟩ : ∃ cc, cnt L3 x y = cc := ⟨_, rfl⟩
              have hcr : cnt (its P3) x y = cc := by rw [E3.out]; exact hcc
              rw [hpn] at z1 hpl3
              have HPL := Aside0.mk hpl3
              have HCC := Aside0.mk hcc
              have HCR := Aside0.mk hcr
              have HL64 := Aside0.mk hl64
              clear hpl3 hpn hcc hcr hl64
              go_quiet ((first | (go_at_call 10; (have q := fun m => buf_len g mo L3 lo3 _ w (W3.drewN m) (I3.out.drewN m)); rw [HPL.out] at q; exact Calls.quiet_of_same (q _)) | (go_at_call 15; exact Calls.quiet_of_same (buf_lost g mo L3 lo3 _ w _ (I3.out.drewN _))) | (go_at_call 13; (have q := fun m => buf_count g mo L3 lo3 _ w (W3.drewN m) (I3.out.drewN m) x y HX.out HY.out); rw [HCC.out] at q; exact Calls.quiet_of_same (q _)) | (go_at_call 20; (have q := fun m => ref_count h mo P3 lo3 A3r c3r x y w (W3.drewN m) R3.out HL64.out); rw [HCR.out] at q; exact Calls.quiet_of_same (q _))))
              go_wp2
              go_roundw
              case rel => exact ⟨k + 1, L3, P3, lo3, A3r, c3r, by go_num, by omega, E3, ⟨I3.out.mono (by omega)⟩, ⟨R3.out⟩, ⟨pw_below_drewN B3.out _⟩⟩
              case measure => simp [intOf]; omega
            · subst hm
              have hst : Aside0 True := ⟨trivial⟩
              go_upto_region 17 with (fail)
              have d0 : W.drew.cell? ⟨bx, 0, none⟩ = some (.int .i64 x) := (blk_cell XW.out 0).trans rfl
              have d1 : W.drew.cell? ⟨bx, 1, none⟩ = some (.int .i64 y) := (blk_cell XW.out 1).trans rfl
              have hX3 : W.drew.cell? (ad3.add k) = some (.slice S0 s.length cq) := cell_bel BB.out X3.out
              have hS0 : W.drew.cell? ⟨bx, 0, none⟩ = some (.int .i64 x) ∧ W.drew.cell? ⟨bx, 1, none⟩ = some (.int .i64 y) ∧ W.drew.cell? (ad3.add k) = some (.slice S0 s.length cq) := ⟨d0, d1, hX3⟩
              obtain ⟨PP, hPP⟩ : ∃ PP, putS mo L lo x y s = PP := ⟨_, rfl⟩
              have HPP := Aside0.mk hPP
              clear hPP
              go_region_held3 (fun U => U.cell? ⟨bx, 0, none⟩ = some (.int .i64 x) ∧ U.cell? ⟨bx, 1, none⟩ = some (.int .i64 y) ∧ U.cell? (ad3.add k) = some (.slice S0 s.length cq)) (first | exact hS2 | exact hS1 | exact hS0 | go_keep) (first | (go_at_call 8; go_loud (refine (buf_put g mo L lo (140 * k) x y S0 s cq w _ (IB.out.drewN 1) (fun U hU => C_below HC.out (hU.below (below_drew1 BB.out) (Nat.le_refl _))) HSB.out HMX.out HBM.out).mono ?_; rw [HPP.out]; rintro en w1 ⟨rfl, a1, a2⟩; have M1 := Aside0.mk a1; have M2 := Aside0.mk a2; have hS1 : w1.cell? ⟨bx, 0, none⟩ = some (.int .i64 x) ∧ w1.cell? ⟨bx, 1, none⟩ = some (.int .i64 y) ∧ w1.cell? (ad3.add k) = some (.slice S0 s.length cq) := keepP XW.out HXB.out a2 hX3; clear a1 a2)) | (go_at_call 17; go_loud (refine (ref_put h mo P lo A c x y S0 s cq w w1 ((RB.out.keep (Keep.of_below (below_drew1 (Below.refl _ _)))).keep M2.out) (fun U hU => C_below HC.out (upd_all hU (M2.out.below (below_drew1 BB.out) (Nat.le_refl _)) RB.out.2.1)) HSB.out HOK.out HPL.out HLM.out h1 HLO.out HBM.out).mono ?_; rw [EQ.out, HPP.out]; rintro en w2 ⟨P3, A3r, c3r, rfl, a1, a2, a3⟩; have R1 := Aside0.mk a1; have R2 := Aside0.mk a2; have R4 := Aside0.mk a3; have hS2 : w2.cell? ⟨bx, 0, none⟩ = some (.int .i64 x) ∧ w2.cell? ⟨bx, 1, none⟩ = some (.int .i64 y) ∧ w2.cell? (ad3.add k) = some (.slice S0 s.length cq) := updP hS1 a3 HBX.out HHD.out; clear a1 a2 a3)))
              go_upto_region 22 with (fail)
              obtain ⟨r1, L3, lo3⟩ := PP
              have I3 : Aside0 (IsBuf w w2 g mo L3 lo3 (140 * k + 66)) := ⟨buf_upd M1.out ((RB.out.keep (Keep.of_below (below_drew1 (Below.refl _ _)))).keep M2.out).1 R4.out⟩
              have E3 : Aside0 (its P3 = L3) := ⟨R1.out⟩
              have B3 : Aside0 (Below w.heap.size w w2) := ⟨upd_all R4.out (M2.out.below (below_drew1 BB.out) (Nat.le_refl _)) RB.out.2.1⟩
              have X3b : Aside0 (w2.heap[bx]? = some (.cells #[.int .i64 x, .int .i64 y] 45 (0, 0))) := ⟨R4.out.far (keep_far45 M2.out XW.out) HBX.out⟩
              refine wp_gen (fun V => IsBuf w V g mo L3 lo3 (140 * k + 66) ∧ IsR w V h mo P3 lo3 A3r c3r ∧ Below w.heap.size w V ∧ V.heap[bx]? = some (.cells #[.int .i64 x, .int .i64 y] 45 (0, 0))) ⟨I3.out, R2.out, B3.out, X3b.out⟩ ?_
              clear M1 M2 R1 R2 R4 hS0 hX3 d0 d1 I3 B3 X3b
              (try clear hS1 hS2)
              rintro W3 ⟨q1, q2, q3, q4⟩
              have I3 := Aside0.mk q1
              have R3 := Aside0.mk q2
              have B3 := Aside0.mk q3
              have X3 := Aside0.mk q4
              clear q1 q2 q3 q4
              have y0 : W3.cell? ⟨bx, 0, none⟩ = some (.int .i64 x) := (blk_cell X3.out 0).trans rfl
              have y1 : W3.cell? ⟨bx, 1, none⟩ = some (.int .i64 y) := (blk_cell X3.out 1).trans rfl
              have z1 : W3.cell? ⟨h, 1, none⟩ = some (.slice A3r P3.length c3r) := (blk_cell R3.out.1 1).trans rfl
              have z2 : W3.cell? ⟨h, 2, none⟩ = some (.int .i64 lo3) := (blk_cell R3.out.1 2).trans rfl
              have hpl3 : L3.length = P3.length := by rw [← E3.out, its_len]
              have hl64 : P3.length ≤ 64 := by have := I3.out.len; omega
              obtain ⟨pn, hpn⟩ : ∃ pn, P3.length = pn := ⟨_, rfl⟩
              obtain ⟨cc, hcc⟩ : ∃ cc, cnt L3 x y = cc := ⟨_, rfl⟩
              have hcr : cnt (its P3) x y = cc := by rw [E3.out]; exact hcc
              rw [hpn] at z1 hpl3
              have HPL := Aside0.mk hpl3
              have HCC := Aside0.mk hcc
              have HCR := Aside0.mk hcr
              have HL64 := Aside0.mk hl64
              clear hpl3 hpn hcc hcr hl64
              go_quiet ((first | (go_at_call 10; (have q := fun m => buf_len g mo L3 lo3 _ w (W3.drewN m) (I3.out.drewN m)); rw [HPL.out] at q; exact Calls.quiet_of_same (q _)) | (go_at_call 15; exact Calls.quiet_of_same (buf_lost g mo L3 lo3 _ w _ (I3.out.drewN _))) | (go_at_call 13; (have q := fun m => buf_count g mo L3 lo3 _ w (W3.drewN m) (I3.out.drewN m) x y HX.out HY.out); rw [HCC.out] at q; exact Calls.quiet_of_same (q _)) | (go_at_call 20; (have q := fun m => ref_count h mo P3 lo3 A3r c3r x y w (W3.drewN m) R3.out HL64.out); rw [HCR.out] at q; exact Calls.quiet_of_same (q _))))
              go_wp2
              go_roundw
              case rel => exact ⟨k + 1, L3, P3, lo3, A3r, c3r, by go_num, by omega, E3, ⟨I3.out.mono (by omega)⟩, ⟨R3.out⟩, ⟨pw_below_drewN B3.out _⟩⟩
              case measure => simp [intOf]; omega
            · subst hm
              have hst : Aside0 True := ⟨trivial⟩
              go_upto_region 17 with (fail)
              have d0 : W.drew.cell? ⟨bx, 0, none⟩ = some (.int .i64 x) := (blk_cell XW.out 0).trans rfl
              have d1 : W.drew.cell? ⟨bx, 1, none⟩ = some (.int .i64 y) := (blk_cell XW.out 1).trans rfl
              have hX3 : W.drew.cell? (ad3.add k) = some (.slice S0 s.length cq) := cell_bel BB.out X3.out
              have hS0 : W.drew.cell? ⟨bx, 0, none⟩ = some (.int .i64 x) ∧ W.drew.cell? ⟨bx, 1, none⟩ = some (.int .i64 y) ∧ W.drew.cell? (ad3.add k) = some (.slice S0 s.length cq) := ⟨d0, d1, hX3⟩
              obtain ⟨PP, hPP⟩ : ∃ PP, putS mo L lo x y s = PP := ⟨_, rfl⟩
              have HPP := Aside0.mk hPP
              clear hPP
              go_region_held3 (fun U => U.cell? ⟨bx, 0, none⟩ = some (.int .i64 x) ∧ U.cell? ⟨bx, 1, none⟩ = some (.int .i64 y) ∧ U.cell? (ad3.add k) = some (.slice S0 s.length cq)) (first | exact hS2 | exact hS1 | exact hS0 | go_keep) (first | (go_at_call 8; go_loud (refine (buf_put g mo L lo (140 * k) x y S0 s cq w _ (IB.out.drewN 1) (fun U hU => C_below HC.out (hU.below (below_drew1 BB.out) (Nat.le_refl _))) HSB.out HMX.out HBM.out).mono ?_; rw [HPP.out]; rintro en w1 ⟨rfl, a1, a2⟩; have M1 := Aside0.mk a1; have M2 := Aside0.mk a2; have hS1 : w1.cell? ⟨bx, 0, none⟩ = some (.int .i64 x) ∧ w1.cell? ⟨bx, 1, none⟩ = some (.int .i64 y) ∧ w1.cell? (ad3.add k) = some (.slice S0 s.length cq) := keepP XW.out HXB.out a2 hX3; clear a1 a2)) | (go_at_call 17; go_loud (refine (ref_put h mo P lo A c x y S0 s cq w w1 ((RB.out.keep (Keep.of_below (below_drew1 (Below.refl _ _)))).keep M2.out) (fun U hU => C_below HC.out (upd_all hU (M2.out.below (below_drew1 BB.out) (Nat.le_refl _)) RB.out.2.1)) HSB.out HOK.out HPL.out HLM.out h1 HLO.out HBM.out).mono ?_; rw [EQ.out, HPP.out]; rintro en w2 ⟨P3, A3r, c3r, rfl, a1, a2, a3⟩; have R1 := Aside0.mk a1; have R2 := Aside0.mk a2; have R4 := Aside0.mk a3; have hS2 : w2.cell? ⟨bx, 0, none⟩ = some (.int .i64 x) ∧ w2.cell? ⟨bx, 1, none⟩ = some (.int .i64 y) ∧ w2.cell? (ad3.add k) = some (.slice S0 s.length cq) := updP hS1 a3 HBX.out HHD.out; clear a1 a2 a3)))
              go_upto_region 22 with (fail)
              obtain ⟨r1, L3, lo3⟩ := PP
              have I3 : Aside0 (IsBuf w w2 g mo L3 lo3 (140 * k + 66)) := ⟨buf_upd M1.out ((RB.out.keep (Keep.of_below (below_drew1 (Below.refl _ _)))).keep M2.out).1 R4.out⟩
              have E3 : Aside0 (its P3 = L3) := ⟨R1.out⟩
              have B3 : Aside0 (Below w.heap.size w w2) := ⟨upd_all R4.out (M2.out.below (below_drew1 BB.out) (Nat.le_refl _)) RB.out.2.1⟩
              have X3b : Aside0 (w2.heap[bx]? = some (.cells #[.int .i64 x, .int .i64 y] 45 (0, 0))) := ⟨R4.out.far (keep_far45 M2.out XW.out) HBX.out⟩
              refine wp_gen (fun V => IsBuf w V g mo L3 lo3 (140 * k + 66) ∧ IsR w V h mo P3 lo3 A3r c3r ∧ Below w.heap.size w V ∧ V.heap[bx]? = some (.cells #[.int .i64 x, .int .i64 y] 45 (0, 0))) ⟨I3.out, R2.out, B3.out, X3b.out⟩ ?_
              clear M1 M2 R1 R2 R4 hS0 hX3 d0 d1 I3 B3 X3b
              (try clear hS1 hS2)
              rintro W3 ⟨q1, q2, q3, q4⟩
              have I3 := Aside0.mk q1
              have R3 := Aside0.mk q2
              have B3 := Aside0.mk q3
              have X3 := Aside0.mk q4
              clear q1 q2 q3 q4
              have y0 : W3.cell? ⟨bx, 0, none⟩ = some (.int .i64 x) := (blk_cell X3.out 0).trans rfl
              have y1 : W3.cell? ⟨bx, 1, none⟩ = some (.int .i64 y) := (blk_cell X3.out 1).trans rfl
              have z1 : W3.cell? ⟨h, 1, none⟩ = some (.slice A3r P3.length c3r) := (blk_cell R3.out.1 1).trans rfl
              have z2 : W3.cell? ⟨h, 2, none⟩ = some (.int .i64 lo3) := (blk_cell R3.out.1 2).trans rfl
              have hpl3 : L3.length = P3.length := by rw [← E3.out, its_len]
              have hl64 : P3.length ≤ 64 := by have := I3.out.len; omega
              obtain ⟨pn, hpn⟩ : ∃ pn, P3.length = pn := ⟨_, rfl⟩
              obtain ⟨cc, hcc⟩ : ∃ cc, cnt L3 x y = cc := ⟨_, rfl⟩
              have hcr : cnt (its P3) x y = cc := by rw [E3.out]; exact hcc
              rw [hpn] at z1 hpl3
              have HPL := Aside0.mk hpl3
              have HCC := Aside0.mk hcc
              have HCR := Aside0.mk hcr
              have HL64 := Aside0.mk hl64
              clear hpl3 hpn hcc hcr hl64
              go_quiet ((first | (go_at_call 10; (have q := fun m => buf_len g mo L3 lo3 _ w (W3.drewN m) (I3.out.drewN m)); rw [HPL.out] at q; exact Calls.quiet_of_same (q _)) | (go_at_call 15; exact Calls.quiet_of_same (buf_lost g mo L3 lo3 _ w _ (I3.out.drewN _))) | (go_at_call 13; (have q := fun m => buf_count g mo L3 lo3 _ w (W3.drewN m) (I3.out.drewN m) x y HX.out HY.out); rw [HCC.out] at q; exact Calls.quiet_of_same (q _)) | (go_at_call 20; (have q := fun m => ref_count h mo P3 lo3 A3r c3r x y w (W3.drewN m) R3.out HL64.out); rw [HCR.out] at q; exact Calls.quiet_of_same (q _))))
              go_wp2
              go_roundw
              case rel => exact ⟨k + 1, L3, P3, lo3, A3r, c3r, by go_num, by omega, E3, ⟨I3.out.mono (by omega)⟩, ⟨R3.out⟩, ⟨pw_below_drewN B3.out _⟩⟩
              case measure => simp [intOf]; omega
            · subst hm
              go_upto_region 20 with (fail)
              have hmx64 : 140 * k + 64 < maxLen := by unfold maxLen; omega
              have HMX64 := Aside0.mk hmx64
              obtain ⟨nt, hnt⟩ : ∃ nt, (L.filter (atC x y)).length = nt := ⟨_, rfl⟩
              have hef : its (P.filter (fun p => atC x y p.1)) = L.filter (atC x y) := by rw [← EQ.out]; exact its_filter P (atC x y)
              have heg : its (P.filter (fun p => !atC x y p.1)) = L.filter (fun u => !atC x y u) := by rw [← EQ.out]; exact its_filter P (fun u => !atC x y u)
              have hn2 : (P.filter (fun p => atC x y p.1)).length = nt := by rw [← hnt, ← hef, its_len]
              have hn64 : nt ≤ 64 := by have := List.length_filter_le (fun p : Rt => atC x y p.1) P; have := HPL.out; omega
              have HN1 := Aside0.mk hnt
              have HN2 := Aside0.mk hn2
              have HN64 := Aside0.mk hn64
              have HEQF : Aside0 ((P.filter (fun p => atC x y p.1)).map (fun p => p.1.2.2) = (L.filter (atC x y)).map (fun u => u.2.2)) := ⟨by rw [← hef]; unfold its; rw [List.map_map]; rfl⟩
              have HEG := Aside0.mk heg
              have HOK2 : Aside0 (∀ u ∈ L.filter (atC x y), ItOk u) := ⟨fun u hu => IB.out.ok u (List.mem_filter.1 hu).1⟩
              have HOKP : Aside0 (∀ p ∈ P.filter (fun p => atC x y p.1), p.1.2.2.length ≤ maxLen) := ⟨fun p hp => by have h1 := (HOK.out p.1 (List.mem_map.2 ⟨p, (List.mem_filter.1 hp).1, rfl⟩)).2.2.2.2.1; unfold maxLen; omega⟩
              have d0 : W.drew.cell? ⟨bx, 0, none⟩ = some (.int .i64 x) := (blk_cell XW.out 0).trans rfl
              have d1 : W.drew.cell? ⟨bx, 1, none⟩ = some (.int .i64 y) := (blk_cell XW.out 1).trans rfl
              have hS0 : W.drew.cell? ⟨bx, 0, none⟩ = some (.int .i64 x) ∧ W.drew.cell? ⟨bx, 1, none⟩ = some (.int .i64 y) := ⟨d0, d1⟩
              clear hmx64 hnt hef heg hn2 hn64
              go_region_held3 (fun U => U.cell? ⟨bx, 0, none⟩ = some (.int .i64 x) ∧ U.cell? ⟨bx, 1, none⟩ = some (.int .i64 y)) (first | exact hS3 | exact hS2 | exact hS1 | exact hS0 | go_keep) (first | (go_at_call 9; go_loud (refine (buf_take g mo L lo (140 * k) x y w W.drew IB.out HMX64.out).mono ?_; rw [HN1.out]; rintro en w1 ⟨A9, c9, rfl, a1, a2, a3⟩; have M1 := Aside0.mk a1; have M2 := Aside0.mk a2; have M3 := Aside0.mk a3; have hS1 : w1.cell? ⟨bx, 0, none⟩ = some (.int .i64 x) ∧ w1.cell? ⟨bx, 1, none⟩ = some (.int .i64 y) := keepQ XW.out a3; clear a1 a2 a3)) | (go_at_call 18; go_loud (refine (ref_take h mo P lo A c x y w w1 ((RB.out.keep (Keep.of_below (below_drew1 (Below.refl _ _)))).keep M3.out) HPL.out).mono ?_; rw [HN2.out]; rintro en w2 ⟨Ao, A3r, co, c3r, rfl, a1, a2, a3⟩; have T1 := Aside0.mk a1; have T2 := Aside0.mk a2; have T3 := Aside0.mk a3; have hS2 : w2.cell? ⟨bx, 0, none⟩ = some (.int .i64 x) ∧ w2.cell? ⟨bx, 1, none⟩ = some (.int .i64 y) := updQ hS1 a3 HBX.out; clear a1 a2 a3)) | (go_at_call 12; go_loud (have qR := (RB.out.keep (Keep.of_below (below_drew1 (Below.refl _ _)))).keep M3.out; have qb : ∀ p ∈ P.filter (fun p => atC x y p.1), RBytes w w2 p := fun p hp => rb_upd (qR.2.2.2 p (List.mem_filter.1 hp).1) T3.out qR.1; have q1 : StrsAt w2 A9 ((L.filter (atC x y)).map (fun u => u.2.2)) := gone_strs (gone_upd M1.out T3.out qR.1) HOK2.out; have q2 : StrsAt w2 Ao ((L.filter (atC x y)).map (fun u => u.2.2)) := ref_strs (z := w) T1.out HN2.out qb HEQF.out HOKP.out; have q3 : ((L.filter (atC x y)).map (fun u => u.2.2)).length = nt := (List.length_map _).trans HN1.out; refine (same_yes A9 Ao c9 co nt ((L.filter (atC x y)).map (fun u => u.2.2)) w2 q3 q1 q2 (by have := HN64.out; omega)).mono ?_; rintro en w3 ⟨rfl, a1⟩; have T4 := Aside0.mk a1; have hS3 : w3.cell? ⟨bx, 0, none⟩ = some (.int .i64 x) ∧ w3.cell? ⟨bx, 1, none⟩ = some (.int .i64 y) := ⟨cell_bel a1 hS2.1, cell_bel a1 hS2.2⟩; clear a1 qR qb q1 q2 q3)))
              go_upto_region 22 with (fail)
              have hR1 := (RB.out.keep (Keep.of_below (below_drew1 (Below.refl _ _)))).keep M3.out
              have I3 := (buf_upd M2.out hR1.1 T3.out).below T4.out
              have R3 := T2.out.below T4.out
              have hB2 := upd_all T3.out (M3.out.below (below_drew1 BB.out) (Nat.le_refl _)) RB.out.2.1
              have B3 := below_step hB2 T4.out
              have X3b := blk_below (T3.out.far (keep_far45 M3.out XW.out) HBX.out) T4.out
              have E3 := HEG
              replace I3 := I3.mono (show 140 * k + 64 ≤ 140 * k + 66 by omega)
              obtain ⟨L3, hL3⟩ : ∃ L3, L.filter (fun u => !atC x y u) = L3 := ⟨_, rfl⟩
              obtain ⟨P3, hP3⟩ : ∃ P3, P.filter (fun p => !atC x y p.1) = P3 := ⟨_, rfl⟩
              rw [hL3] at I3 E3
              rw [hP3] at R3 E3
              refine wp_gen (fun V => IsBuf w V g mo L3 lo (140 * k + 66) ∧ IsR w V h mo P3 lo A3r c3r ∧ Below w.heap.size w V ∧ V.heap[bx]? = some (.cells #[.int .i64 x, .int .i64 y] 45 (0, 0))) ⟨I3, R3, B3, X3b⟩ ?_
              clear M1 M2 M3 T1 T2 T3 T4 hS0 d0 d1 hR1 hB2 I3 R3 B3 X3b hL3 hP3
              (try clear hS1 hS2 hS3)
              rintro W3 ⟨q1, q2, q3, q4⟩
              have I3 := Aside0.mk q1
              have R3 := Aside0.mk q2
              have B3 := Aside0.mk q3
              have X3 := Aside0.mk q4
              clear q1 q2 q3 q4
              have y0 : W3.cell? ⟨bx, 0, none⟩ = some (.int .i64 x) := (blk_cell X3.out 0).trans rfl
              have y1 : W3.cell? ⟨bx, 1, none⟩ = some (.int .i64 y) := (blk_cell X3.out 1).trans rfl
              have z1 : W3.cell? ⟨h, 1, none⟩ = some (.slice A3r P3.length c3r) := (blk_cell R3.out.1 1).trans rfl
              have z2 : W3.cell? ⟨h, 2, none⟩ = some (.int .i64 lo) := (blk_cell R3.out.1 2).trans rfl
              have hpl3 : L3.length = P3.length := by rw [← E3.out, its_len]
              have hl64 : P3.length ≤ 64 := by have := I3.out.len; omega
              obtain ⟨pn, hpn⟩ : ∃ pn, P3.length = pn := ⟨_, rfl⟩
              obtain ⟨cc, hcc⟩ : ∃ cc, cnt L3 x y = cc := ⟨_, rfl⟩
              have hcr : cnt (its P3) x y = cc := by rw [E3.out]; exact hcc
              rw [hpn] at z1 hpl3
              have HPL := Aside0.mk hpl3
              have HCC := Aside0.mk hcc
              have HCR := Aside0.mk hcr
              have HL64 := Aside0.mk hl64
              clear hpl3 hpn hcc hcr hl64
              go_quiet ((first | (go_at_call 10; (have q := fun m => buf_len g mo L3 lo _ w (W3.drewN m) (I3.out.drewN m)); rw [HPL.out] at q; exact Calls.quiet_of_same (q _)) | (go_at_call 15; exact Calls.quiet_of_same (buf_lost g mo L3 lo _ w _ (I3.out.drewN _))) | (go_at_call 13; (have q := fun m => buf_count g mo L3 lo _ w (W3.drewN m) (I3.out.drewN m) x y HX.out HY.out); rw [HCC.out] at q; exact Calls.quiet_of_same (q _)) | (go_at_call 20; (have q := fun m => ref_count h mo P3 lo A3r c3r x y w (W3.drewN m) R3.out HL64.out); rw [HCR.out] at q; exact Calls.quiet_of_same (q _))))
              go_wp2
              go_roundw
              case rel => exact ⟨k + 1, L3, P3, lo, A3r, c3r, by go_num, by omega, E3, ⟨I3.out.mono (by omega)⟩, ⟨R3.out⟩, ⟨pw_below_drewN B3.out _⟩⟩
              case measure => simp [intOf]; omega
            · subst hm
              go_upto_region 12 with (fail)
              have hmx64 : 140 * k + 64 < maxLen := by unfold maxLen; omega
              have HMX64 := Aside0.mk hmx64
              obtain ⟨nt, hnt⟩ : ∃ nt, (L.filter (fun u => !behindB x y u)).length = nt := ⟨_, rfl⟩
              have hef : its (P.filter (fun p => !behindB x y p.1)) = L.filter (fun u => !behindB x y u) := by rw [← EQ.out]; exact its_filter P (fun u => !behindB x y u)
              have heg : its (P.filter (fun p => behindB x y p.1)) = L.filter (behindB x y) := by rw [← EQ.out]; exact its_filter P (behindB x y)
              have hn2 : (P.filter (fun p => !behindB x y p.1)).length = nt := by rw [← hnt, ← hef, its_len]
              have HN1 := Aside0.mk hnt
              have HN2 := Aside0.mk hn2
              have HEG := Aside0.mk heg
              have d0 : W.drew.cell? ⟨bx, 0, none⟩ = some (.int .i64 x) := (blk_cell XW.out 0).trans rfl
              have d1 : W.drew.cell? ⟨bx, 1, none⟩ = some (.int .i64 y) := (blk_cell XW.out 1).trans rfl
              have hS0 : W.drew.cell? ⟨bx, 0, none⟩ = some (.int .i64 x) ∧ W.drew.cell? ⟨bx, 1, none⟩ = some (.int .i64 y) := ⟨d0, d1⟩
              clear hmx64 hnt hef heg hn2
              go_region_held3 (fun U => U.cell? ⟨bx, 0, none⟩ = some (.int .i64 x) ∧ U.cell? ⟨bx, 1, none⟩ = some (.int .i64 y)) (first | exact hS2 | exact hS1 | exact hS0 | go_keep) (first | (go_at_call 14; go_loud (refine (buf_drop g mo L lo (140 * k) x y w W.drew IB.out HMX64.out).mono ?_; rw [HN1.out]; rintro en w1 ⟨rfl, a2, a3⟩; have M2 := Aside0.mk a2; have M3 := Aside0.mk a3; have hS1 : w1.cell? ⟨bx, 0, none⟩ = some (.int .i64 x) ∧ w1.cell? ⟨bx, 1, none⟩ = some (.int .i64 y) := keepQ XW.out a3; clear a2 a3)) | (go_at_call 19; go_loud (refine (ref_drop h mo P lo A c x y w w1 ((RB.out.keep (Keep.of_below (below_drew1 (Below.refl _ _)))).keep M3.out) HPL.out).mono ?_; rw [HN2.out]; rintro en w2 ⟨A3r, c3r, rfl, a2, a3⟩; have T2 := Aside0.mk a2; have T3 := Aside0.mk a3; have hS2 : w2.cell? ⟨bx, 0, none⟩ = some (.int .i64 x) ∧ w2.cell? ⟨bx, 1, none⟩ = some (.int .i64 y) := updQ hS1 a3 HBX.out; clear a2 a3)))
              go_upto_region 22 with (fail)
              have hR1 := (RB.out.keep (Keep.of_below (below_drew1 (Below.refl _ _)))).keep M3.out
              have I3 := buf_upd M2.out hR1.1 T3.out
              have R3 := T2.out
              have B3 := upd_all T3.out (M3.out.below (below_drew1 BB.out) (Nat.le_refl _)) RB.out.2.1
              have X3b := T3.out.far (keep_far45 M3.out XW.out) HBX.out
              have E3 := HEG
              replace I3 := I3.mono (show 140 * k + 64 ≤ 140 * k + 66 by omega)
              obtain ⟨L3, hL3⟩ : ∃ L3, L.filter (behindB x y) = L3 := ⟨_, rfl⟩
              obtain ⟨P3, hP3⟩ : ∃ P3, P.filter (fun p => behindB x y p.1) = P3 := ⟨_, rfl⟩
              rw [hL3] at I3 E3
              rw [hP3] at R3 E3
              refine wp_gen (fun V => IsBuf w V g mo L3 lo (140 * k + 66) ∧ IsR w V h mo P3 lo A3r c3r ∧ Below w.heap.size w V ∧ V.heap[bx]? = some (.cells #[.int .i64 x, .int .i64 y] 45 (0, 0))) ⟨I3, R3, B3, X3b⟩ ?_
              clear M2 M3 T2 T3 hS0 d0 d1 hR1 I3 R3 B3 X3b hL3 hP3
              (try clear hS1 hS2)
              rintro W3 ⟨q1, q2, q3, q4⟩
              have I3 := Aside0.mk q1
              have R3 := Aside0.mk q2
              have B3 := Aside0.mk q3
              have X3 := Aside0.mk q4
              clear q1 q2 q3 q4
              have y0 : W3.cell? ⟨bx, 0, none⟩ = some (.int .i64 x) := (blk_cell X3.out 0).trans rfl
              have y1 : W3.cell? ⟨bx, 1, none⟩ = some (.int .i64 y) := (blk_cell X3.out 1).trans rfl
              have z1 : W3.cell? ⟨h, 1, none⟩ = some (.slice A3r P3.length c3r) := (blk_cell R3.out.1 1).trans rfl
              have z2 : W3.cell? ⟨h, 2, none⟩ = some (.int .i64 lo) := (blk_cell R3.out.1 2).trans rfl
              have hpl3 : L3.length = P3.length := by rw [← E3.out, its_len]
              have hl64 : P3.length ≤ 64 := by have := I3.out.len; omega
              obtain ⟨pn, hpn⟩ : ∃ pn, P3.length = pn := ⟨_, rfl⟩
              obtain ⟨cc, hcc⟩ : ∃ cc, cnt L3 x y = cc := ⟨_, rfl⟩
              have hcr : cnt (its P3) x y = cc := by rw [E3.out]; exact hcc
              rw [hpn] at z1 hpl3
              have HPL := Aside0.mk hpl3
              have HCC := Aside0.mk hcc
              have HCR := Aside0.mk hcr
              have HL64 := Aside0.mk hl64
              clear hpl3 hpn hcc hcr hl64
              go_quiet ((first | (go_at_call 10; (have q := fun m => buf_len g mo L3 lo _ w (W3.drewN m) (I3.out.drewN m)); rw [HPL.out] at q; exact Calls.quiet_of_same (q _)) | (go_at_call 15; exact Calls.quiet_of_same (buf_lost g mo L3 lo _ w _ (I3.out.drewN _))) | (go_at_call 13; (have q := fun m => buf_count g mo L3 lo _ w (W3.drewN m) (I3.out.drewN m) x y HX.out HY.out); rw [HCC.out] at q; exact Calls.quiet_of_same (q _)) | (go_at_call 20; (have q := fun m => ref_count h mo P3 lo A3r c3r x y w (W3.drewN m) R3.out HL64.out); rw [HCR.out] at q; exact Calls.quiet_of_same (q _))))
              go_wp2
              go_roundw
              case rel => exact ⟨k + 1, L3, P3, lo, A3r, c3r, by go_num, by omega, E3, ⟨I3.out.mono (by omega)⟩, ⟨R3.out⟩, ⟨pw_below_drewN B3.out _⟩⟩
              case measure => simp [intOf]; omega
          · have c8b : decide ((k : Int) < 150) = false := decide_eq_false (by omega)
            go_wp2_with (first | (go_at_call 11; go_loud (refine (awake_ok _).mono ?_; rintro en wz ⟨rfl, hbz⟩; have BZ := Aside0.mk hbz; clear hbz)))
            go_ret
            exact ⟨rfl, below_step Q3.out BZ.out⟩
        · have c7b : decide ((k : Int) < (n3 : Int)) = false := decide_eq_false (by omega)
          go_wp2_with (first | (go_at_call 11; go_loud (refine (awake_ok _).mono ?_; rintro en wz ⟨rfl, hbz⟩; have BZ := Aside0.mk hbz; clear hbz)))
          go_ret
          exact ⟨rfl, below_step Q3.out BZ.out⟩
      · have c6b : decide ((k : Int) < (n2 : Int)) = false := decide_eq_false (by omega)
        go_wp2_with (first | (go_at_call 11; go_loud (refine (awake_ok _).mono ?_; rintro en wz ⟨rfl, hbz⟩; have BZ := Aside0.mk hbz; clear hbz)))
        go_ret
        exact ⟨rfl, below_step Q3.out BZ.out⟩
    · have c5b : decide ((k : Int) < (l1.length : Int)) = false := decide_eq_false (by omega)
      go_wp2_with (first | (go_at_call 11; go_loud (refine (awake_ok _).mono ?_; rintro en wz ⟨rfl, hbz⟩; have BZ := Aside0.mk hbz; clear hbz)))
      go_ret
      exact ⟨rfl, below_step Q3.out BZ.out⟩
theorem plays_bad (A1 A2 A3 : Option Addr) (c1 c2 c3 n2 n3 : Nat) (mo : Int) (l1 : List Int) (x2 : Nat → Nat → Int) (sf : Nat → Option Addr) (cp : Nat → Nat) (bf : Nat → List Int) (w : World) (hb : ¬ (1 ≤ mo ∧ mo ≤ 64)) : Calls Try.prog 6 #[.int .i64 mo, .slice A1 l1.length c1, .slice A2 n2 c2, .slice A3 n3 c3] w fun en w' => en = .returned (.bool true) ∧ Below w.heap.size w w' := by
  obtain ⟨n1, hn1⟩ : ∃ n1, l1.length = n1 := ⟨_, rfl⟩
  rw [hn1]
  clear hn1
  go_enter Try.func6, Try.ntmps6
  go_wp2_with (first | (go_at_call 7; go_loud (refine (new_no mo _ hb).mono ?_; rintro en w1 ⟨rfl, e1⟩; rw [e1]; clear e1)) | (go_at_call 16; go_loud (refine (ref_new_no mo _ hb).mono ?_; rintro en w2 ⟨rfl, e1⟩; rw [e1]; clear e1)) | (go_at_call 11; go_loud (refine (awake_ok _).mono ?_; rintro en wz ⟨rfl, hbz⟩; have BZ := Aside0.mk hbz; clear hbz)))
  go_ret
  exact ⟨rfl, BZ.out⟩
theorem plays_any (A1 A2 A3 : Option Addr) (c1 c2 c3 n2 n3 : Nat) (mo : Int) (l1 : List Int) (x2 : Nat → Nat → Int) (sf : Nat → Option Addr) (cp : Nat → Nat) (bf : Nat → List Int) (w : World) (hr1 : Kd.C (Kd.int .u8) w A1 l1.length l1) (hr2 : Rd.IntsAt w A2 .i64 2 n2 x2) (hr3 : Rd.BytesAt w A3 n3 sf cp bf) (hw1 : ∀ x ∈ l1, (Lit.int .u8 x).wf = true) (hw2 : ∀ i j, i < n2 → j < 2 → (Lit.int .i64 (x2 i j)).wf = true) (hm1 : l1.length ≤ maxLen) (hm2 : n2 ≤ maxLen) (hm3 : n3 ≤ maxLen) : Calls Try.prog 6 #[.int .i64 mo, .slice A1 l1.length c1, .slice A2 n2 c2, .slice A3 n3 c3] w fun en w' => en = .returned (.bool true) ∧ Below w.heap.size w w' := by
  by_cases hb : 1 ≤ mo ∧ mo ≤ 64
  · exact plays_good A1 A2 A3 c1 c2 c3 n2 n3 mo l1 x2 sf cp bf w hr1 hr2 hr3 hw1 hw2 hm1 hm2 hm3 hb.1 hb.2
  · exact plays_bad A1 A2 A3 c1 c2 c3 n2 n3 mo l1 x2 sf cp bf w hb
end Go.Proofs.Ytoeaoanaefipaaa.Bfz
