/- Taking and dropping by the reference. -/
import Derived.Test.YtoeaoanaefipaaaProg
import Derived.Below
import Derived.Deep.Draws
import Derived.Deep.AppendLies
import Derived.Maps.AppendAt
import Derived.OwnWalk
import Derived.Laws.BytesArg
import Derived.Laws.MakeOwn
import Derived.Laws.OwnMore
import Derived.Deep.OwnRows
import Derived.Tactics
import Derived.Lib.ConvBytes
import Derived.Laws.Slices
import Derived.WalkKit
import Derived.KernelRfl
import Derived.RowKit3
import Derived.Deep.LoopGhost
import Derived.Deep.QuietTactic
import Derived.BigQuiet
import Derived.WideLaws
import Derived.Deep.DeepCutAuto
import Derived.Deep.CutBlock
import Derived.Deep.RegionHeld3
import Derived.Laws.Rows
import Derived.Lib.AppendStr
import Derived.ArgAppend
import Derived.Laws.IdiomCopy
import Derived.OrdersHeld
import Derived.Laws.BitsLemmas
import Derived.RowKit
import Derived.RegionTactic
import Derived.ChangeAlike
import Derived.Outline
import Derived.LoopTactic
import Derived.WalkSpells
import Derived.WalkLawsBesides
import Derived.Lib.Hide
import Derived.StillTailTactics
import Derived.Deep.RegionWith
import Derived.Deep.RegionLaw
import Derived.Deep.DeepFit
import Derived.Deep.DeepMust
import Derived.Test.YtoeaoanaefipaaaWWords
import Derived.Test.YtoeaoanaefipaaaWLast
import Derived.Test.YtoeaoanaefipaaaWTab
import Derived.Test.YtoeaoanaefipaaaWFour
import Derived.Test.YtoeaoanaefipaaaWQPut
import Derived.Test.YtoeaoanaefipaaaWApart
import Derived.Test.YtoeaoanaefipaaaWArr
import Derived.Test.YtoeaoanaefipaaaWZeros
import Derived.Test.YtoeaoanaefipaaaWFoot
import Derived.Test.YtoeaoanaefipaaaWKept
import Derived.Test.YtoeaoanaefipaaaWShare
import Derived.Test.YtoeaoanaefipaaaWN
import Derived.Test.YtoeaoanaefipaaaWFootNe
import Derived.Test.YtoeaoanaefipaaaWAt
import Derived.Test.YtoeaoanaefipaaaWEqStruct
import Derived.Test.YtoeaoanaefipaaaWRepsOne
import Derived.Test.YtoeaoanaefipaaaWInv
import Derived.Test.YtoeaoanaefipaaaWInvWords
import Derived.Test.YtoeaoanaefipaaaWGuard
import Derived.Test.YtoeaoanaefipaaaWNEv
import Derived.Test.YtoeaoanaefipaaaWMore
import Derived.Test.YtoeaoanaefipaaaBfg
namespace Go.Proofs.Ytoeaoanaefipaaa.Bfh
open Go.RowKit Go.Proofs.YtoeaoanaefipaaaW.PrintWords Go.Proofs.YtoeaoanaefipaaaW.PrintLast Go.Proofs.YtoeaoanaefipaaaW.PrintMore 
attribute [local go_sem] max2_int min2_int max_two min_two max_three min_three max_four min_four
set_option linter.unusedVariables false
set_option linter.unusedSimpArgs false
open Go.Maps Go.ChangeMaps Go.Proofs.Ytoeaoanaefipaaa.Bf1 Go.Proofs.Ytoeaoanaefipaaa.Bf2 Go.Proofs.Ytoeaoanaefipaaa.Bf3 Go.Proofs.Ytoeaoanaefipaaa.BfP Go.Proofs.Ytoeaoanaefipaaa.Bf4 Go.Proofs.Ytoeaoanaefipaaa.Bf5 Go.Proofs.Ytoeaoanaefipaaa.Bf6 Go.Proofs.Ytoeaoanaefipaaa.Bf7 Go.Proofs.Ytoeaoanaefipaaa.Bf8 Go.Proofs.Ytoeaoanaefipaaa.Bf9 Go.Proofs.Ytoeaoanaefipaaa.BfN Go.Proofs.Ytoeaoanaefipaaa.Bfa Go.Proofs.Ytoeaoanaefipaaa.BfQ Go.Proofs.Ytoeaoanaefipaaa.Bfb Go.Proofs.Ytoeaoanaefipaaa.Bfc Go.Proofs.Ytoeaoanaefipaaa.Bfd Go.Proofs.Ytoeaoanaefipaaa.Bfe Go.Proofs.Ytoeaoanaefipaaa.Bfg
attribute [local go_sem] cellS1 frozenS1 cellS2 frozenS2 cellS3 frozenS3 cellS4 frozenS4 cellS5 frozenS5 cellS6 frozenS6

theorem info60 : (Try.prog.info? 60).map (fun i => (i.zero, i.size, i.bytes)) = some (some (.agg #[.int .i64 0, .int .i64 0, .slice none 0 0]), 3, 40) := by kernel_rfl
theorem filter_snoc (P : List Rt) (f : Rt → Bool) (d : Nat) (hd : d < P.length) : (P.take (d + 1)).filter f = (P.take d).filter f ++ (if f P[d] then [P[d]] else []) := by
  rw [List.take_add_one, List.getElem?_eq_getElem hd, List.filter_append]
  show _ ++ [P[d]].filter f = _
  by_cases h : f P[d] = true
  · rw [if_pos h]; simp [h]
  · rw [if_neg h]; simp [h]
theorem filter_two (P : List Rt) (f : Rt → Bool) : (P.filter f).length + (P.filter (fun p => !f p)).length = P.length := by
  induction P with
  | nil => rfl
  | cons p P ih =>
    rw [List.filter_cons, List.filter_cons, List.length_cons]
    cases h : f p
    · simp; omega
    · simp; omega
set_option maxRecDepth 100000 in
set_option maxHeartbeats 2000000 in
theorem ref_take (h : Nat) (mo : Int) (P : List Rt) (lo : Int) (A : Option Addr) (c : Nat) (a b : Int) (z w : World) (k : IsR z w h mo P lo A c) (hl : P.length ≤ 64) : Calls Try.prog 18 #[.pointer (some ⟨h, 0, none⟩), .int .i64 a, .int .i64 b] w fun en w' => ∃ (Ao Al : Option Addr) (co cl : Nat), en = .returned (.slice Ao (P.filter (fun p => atC a b p.1)).length co) ∧ w'.ownsRow w.heap.size 27 1 (.slice Ao (P.filter (fun p => atC a b p.1)).length co) (P.filter (fun p => atC a b p.1)).length ((P.filter (fun p => atC a b p.1)).map (·.2)) ∧ IsR z w' h mo (P.filter (fun p => !atC a b p.1)) lo Al cl ∧ Upd (fun j => j = h) w w' := by
  obtain ⟨i27, hi27, hz27, hs27, hb27⟩ := info_parts info27
  obtain ⟨i60, hi60, hz60, hs60, hb60⟩ := info_parts info60
  have HZ27 := Aside0.mk (And.intro hi27 (And.intro hz27 (And.intro hs27 hb27)))
  have HZ60 := Aside0.mk (And.intro hi60 (And.intro hz60 (And.intro hs60 hb60)))
  have HK := Aside0.mk k
  have HB := Aside0.mk k.2.2.2
  have c1 : w.cell? ⟨h, 1, none⟩ = some (.slice A P.length c) := (blk_cell k.1 1).trans rfl
  have f1 : w.frozen? ⟨h, 1, none⟩ = false := blk_frozen k.1 1
  have hhl := blk_lt k.1
  clear k hi27 hz27 hs27 hb27 hi60 hz60 hs60 hb60
  go_enter Try.func18, Try.ntmps18
  go_wp2
  go_loopw [7, 8, 9] (fun vo vl vi wr => ∃ (d : Nat) (Ao : Option Addr) (co : Nat) (Al : Option Addr) (cl : Nat) (O : List Rt) (K : List Rt), vi = .int .i64 d ∧ d ≤ P.length ∧ vo = .slice Ao O.length co ∧ vl = .slice Al K.length cl ∧ O.length ≤ d ∧ K.length ≤ d ∧ Aside0 (O = (P.take d).filter (fun p => atC a b p.1)) ∧ Aside0 (K = (P.take d).filter (fun p => !atC a b p.1)) ∧ Aside0 (wr.ownsRow w.heap.size 27 1 (.slice Ao O.length co) O.length (O.map (·.2))) ∧ Aside0 (wr.ownsRow w.heap.size 60 3 (.slice Al K.length cl) K.length (rf K)) ∧ Aside0 (Below w.heap.size w wr)) (fun _ _ vi _ => P.length - (intOf vi).toNat)
  case atStart => exact ⟨0, none, 0, none, 0, [], [], rfl, Nat.zero_le _, rfl, rfl, Nat.le_refl _, Nat.le_refl _, ⟨rfl⟩, ⟨rfl⟩, ⟨World.ownsRow_nil _ _ _ _⟩, ⟨World.ownsRow_nil _ _ _ _⟩, ⟨Below.refl _ _⟩⟩
  case round =>
    obtain ⟨d, Ao, co, Al, cl, O, K, rfl, hd, rfl, rfl, hod, hkd, HO, HKK, P1, P2, P3⟩ := hrel
    by_cases hdl : d < P.length
    · skip
      have hdb : decide ((d : Int) < (P.length : Int)) = true := decide_eq_true (by omega)
      obtain ⟨gr, e, h0, h1, h2⟩ := rit HK.out hdl
      have FK := Aside0.mk (filter_snoc P (fun p => !atC a b p.1) d hdl)
      have FO := Aside0.mk (filter_snoc P (fun p => atC a b p.1) d hdl)
      have hrb := HB.out _ (List.getElem_mem hdl)
      subst e
      obtain ⟨p, hp⟩ : ∃ p, P[d] = p := ⟨_, rfl⟩
      rw [hp] at h0 h1 h2 FK hrb FO
      obtain ⟨⟨xa, xb, xs⟩, pv⟩ := p
      dsimp only at h0 h1 h2
      unfold RBytes at hrb
      dsimp only at hrb
      obtain ⟨S, cS, rfl⟩ := own_slice2 hrb
      have r0 := cell_bel P3.out h0
      have r1 := cell_bel P3.out h1
      have r2 := cell_bel P3.out h2
      have c1w := cell_bel P3.out c1
      have hz0 : (0 : Int) ≤ (d : Int) := by omega
      have hz1 : (d : Int) < (P.length : Int) := by omega
      clear hp h0 h1 h2 hrb
      by_cases e1 : xa = a
      · have e1b : (xa == a) = true := by simp [e1]
        by_cases e2 : xb = b
        · have e2b : (xb == b) = true := by simp [e2]
          have hat : atC a b (xa, xb, xs) = true := by unfold atC; simp [e1, e2]
          rw [hat] at FK FO
          clear e1 e2 hat
          have hown := P1.out
          obtain ⟨hi27, hz27, hs27, hb27⟩ := HZ27.out
          have hwz := P3.out.size
          go_wp2_with (first | (at_builtin; go_loud (refine wpList_append_own _ rfl _ _ 28 rfl w.heap.size 27 i27 _ 1 24 Try.underlying28 hi27 hz27 hs27 hb27 rfl (by decide) _ _ _ rfl (hown.alloc _) ⟨wr.heap.size, 0, none⟩ 1 1 [.slice S xs.length cS] rfl rfl (cell_one_new _ _ _) (by simp [Value.oneCell']) (by unfold maxLen; omega) (by omega) (by simp; omega) ?_; intro v' w9 hown' hgrow _; obtain ⟨Ap, cq, rfl⟩ := own_slice2 hown'; have O9 := Aside0.mk hown'; have G9 := Aside0.mk hgrow; clear hown' hgrow)))
          go_roundw
          case rel =>
            have hall := (World.grownBy_alloc wr (.cells #[.slice S xs.length cS] 27) (Value.slice Ao O.length co).ownBlock).trans G9.out
            refine ⟨d + 1, Ap, cq, Al, cl, O ++ [((xa, xb, xs), .slice S xs.length cS)], K, by go_num, by omega, by rw [List.length_append]; rfl, rfl, by rw [List.length_append]; simp; omega, by omega, ⟨by rw [FO.out, HO.out]; simp⟩, ⟨by rw [FK.out, HKK.out]; simp⟩, ⟨?_⟩, ⟨P2.out.kept hall (own_apart P2.out hown (by decide))⟩, ⟨P3.out.grown hall hwz (fun r er => (own_ge hown er).1)⟩⟩
            rw [List.length_append, List.map_append]
            exact O9.out
          case measure => simp [intOf]; omega
        · have e2b : (xb == b) = false := by simp [e2]
          have hat : atC a b (xa, xb, xs) = false := by unfold atC; simp [e2]
          rw [hat] at FK FO
          clear e1 e2 hat
          have hown := P2.out
          obtain ⟨hi60, hz60, hs60, hb60⟩ := HZ60.out
          have hwz := P3.out.size
          go_wp2_with (first | (at_builtin; go_loud (refine wpList_append_own _ rfl _ _ 47 rfl w.heap.size 60 i60 _ 3 40 Try.underlying47 hi60 hz60 hs60 hb60 rfl (by decide) _ _ _ rfl (hown.alloc _) ⟨wr.heap.size, 0, none⟩ 1 1 #[.int .i64 xa, .int .i64 xb, .slice S xs.length cS].toList rfl rfl (cells_new _ _ _) (by simp [Value.oneCell']) (by unfold maxLen; omega) (by omega) (by simp; omega) ?_; intro v' w9 hown' hgrow _; obtain ⟨Ap, cq, rfl⟩ := own_slice2 hown'; have O9 := Aside0.mk hown'; have G9 := Aside0.mk hgrow; clear hown' hgrow)))
          go_roundw
          case rel =>
            have hall := (World.grownBy_alloc wr (.cells #[.int .i64 xa, .int .i64 xb, .slice S xs.length cS] 60) (Value.slice Al K.length cl).ownBlock).trans G9.out
            refine ⟨d + 1, Ao, co, Ap, cq, O, K ++ [((xa, xb, xs), .slice S xs.length cS)], by go_num, by omega, rfl, by rw [List.length_append]; rfl, by omega, by rw [List.length_append]; simp; omega, ⟨by rw [FO.out, HO.out]; simp⟩, ⟨by rw [FK.out, HKK.out]; simp⟩, ⟨P1.out.kept hall (own_apart P1.out hown (by decide))⟩, ⟨?_⟩, ⟨P3.out.grown hall hwz (fun r er => (own_ge hown er).1)⟩⟩
            rw [List.length_append, rf_append]
            exact O9.out
          case measure => simp [intOf]; omega
      · have e1b : (xa == a) = false := by simp [e1]
        have hat : atC a b (xa, xb, xs) = false := by unfold atC; simp [e1]
        rw [hat] at FK FO
        clear e1 hat
        have hown := P2.out
        obtain ⟨hi60, hz60, hs60, hb60⟩ := HZ60.out
        have hwz := P3.out.size
        go_wp2_with (first | (at_builtin; go_loud (refine wpList_append_own _ rfl _ _ 47 rfl w.heap.size 60 i60 _ 3 40 Try.underlying47 hi60 hz60 hs60 hb60 rfl (by decide) _ _ _ rfl (hown.alloc _) ⟨wr.heap.size, 0, none⟩ 1 1 #[.int .i64 xa, .int .i64 xb, .slice S xs.length cS].toList rfl rfl (cells_new _ _ _) (by simp [Value.oneCell']) (by unfold maxLen; omega) (by omega) (by simp; omega) ?_; intro v' w9 hown' hgrow _; obtain ⟨Ap, cq, rfl⟩ := own_slice2 hown'; have O9 := Aside0.mk hown'; have G9 := Aside0.mk hgrow; clear hown' hgrow)))
        go_roundw
        case rel =>
          have hall := (World.grownBy_alloc wr (.cells #[.int .i64 xa, .int .i64 xb, .slice S xs.length cS] 60) (Value.slice Al K.length cl).ownBlock).trans G9.out
          refine ⟨d + 1, Ao, co, Ap, cq, O, K ++ [((xa, xb, xs), .slice S xs.length cS)], by go_num, by omega, rfl, by rw [List.length_append]; rfl, by omega, by rw [List.length_append]; simp; omega, ⟨by rw [FO.out, HO.out]; simp⟩, ⟨by rw [FK.out, HKK.out]; simp⟩, ⟨P1.out.kept hall (own_apart P1.out hown (by decide))⟩, ⟨?_⟩, ⟨P3.out.grown hall hwz (fun r er => (own_ge hown er).1)⟩⟩
          rw [List.length_append, rf_append]
          exact O9.out
        case measure => simp [intOf]; omega
    · have hdb : decide ((d : Int) < (P.length : Int)) = false := decide_eq_false (by omega)
      obtain rfl : d = P.length := by omega
      have hkk := HKK.out
      have hoo := HO.out
      rw [List.take_length] at hkk hoo
      have HK2 := Aside0.mk hkk
      have HO2 := Aside0.mk hoo
      have c1w := cell_bel P3.out c1
      have f1w : wr.frozen? ⟨h, 1, none⟩ = false := blk_frozen (HK.out.below P3.out).1 1
      clear hkk hoo HKK HO
      go_wp2
      go_ret
      rw [← HK2.out, ← HO2.out]
      have hR := HK.out.below P3.out
      have hgr := grownBy_setC wr ⟨h, 1, none⟩ (.slice Al K.length cl)
      refine ⟨Ao, Al, co, cl, rfl, P1.out.kept hgr (Or.inr (own_off P1.out hR.1 (by decide))), ⟨blk_put hR.1 1 _ rfl, hR.2.1, Go.Joins.ownsRow_le (P2.out.kept hgr (Or.inr (own_off P2.out hR.1 (by decide)))) (by have := HK.out.2.1; omega), fun p hp => ?_⟩, Upd.setCell (S := fun j => j = h) (p := ⟨h, 1, none⟩) (Upd.of_below P3.out) (Or.inl rfl) _⟩
      rw [HK2.out] at hp
      have hb := hR.2.2.2 p (List.mem_filter.1 hp).1
      exact World.ownsRow.kept hb hgr (Or.inr (own_off hb hR.1 (by decide)))
set_option maxRecDepth 100000 in
set_option maxHeartbeats 2000000 in
theorem ref_drop (h : Nat) (mo : Int) (P : List Rt) (lo : Int) (A : Option Addr) (c : Nat) (a b : Int) (z w : World) (k : IsR z w h mo P lo A c) (hl : P.length ≤ 64) : Calls Try.prog 19 #[.pointer (some ⟨h, 0, none⟩), .int .i64 a, .int .i64 b] w fun en w' => ∃ (Al : Option Addr) (cl : Nat), en = .returned (.int .i64 (P.filter (fun p => !behindB a b p.1)).length) ∧ IsR z w' h mo (P.filter (fun p => behindB a b p.1)) lo Al cl ∧ Upd (fun j => j = h) w w' := by
  obtain ⟨i27, hi27, hz27, hs27, hb27⟩ := info_parts info27
  obtain ⟨i60, hi60, hz60, hs60, hb60⟩ := info_parts info60
  have HZ27 := Aside0.mk (And.intro hi27 (And.intro hz27 (And.intro hs27 hb27)))
  have HZ60 := Aside0.mk (And.intro hi60 (And.intro hz60 (And.intro hs60 hb60)))
  have HK := Aside0.mk k
  have HB := Aside0.mk k.2.2.2
  have c1 : w.cell? ⟨h, 1, none⟩ = some (.slice A P.length c) := (blk_cell k.1 1).trans rfl
  have f1 : w.frozen? ⟨h, 1, none⟩ = false := blk_frozen k.1 1
  have hhl := blk_lt k.1
  clear k hi27 hz27 hs27 hb27 hi60 hz60 hs60 hb60
  go_enter Try.func19, Try.ntmps19
  go_wp2
  go_loopw [7, 8] (fun vl vi wr => ∃ (d : Nat) (Al : Option Addr) (cl : Nat) (K : List Rt), vi = .int .i64 d ∧ d ≤ P.length ∧ vl = .slice Al K.length cl ∧ K.length ≤ d ∧ Aside0 (K = (P.take d).filter (fun p => behindB a b p.1)) ∧ Aside0 (wr.ownsRow w.heap.size 60 3 (.slice Al K.length cl) K.length (rf K)) ∧ Aside0 (Below w.heap.size w wr)) (fun _ vi _ => P.length - (intOf vi).toNat)
  case atStart => exact ⟨0, none, 0, [], rfl, Nat.zero_le _, rfl, Nat.le_refl _, ⟨rfl⟩, ⟨World.ownsRow_nil _ _ _ _⟩, ⟨Below.refl _ _⟩⟩
  case round =>
    obtain ⟨d, Al, cl, K, rfl, hd, rfl, hkd, HKK, P2, P3⟩ := hrel
    by_cases hdl : d < P.length
    · skip
      have hdb : decide ((d : Int) < (P.length : Int)) = true := decide_eq_true (by omega)
      obtain ⟨gr, e, h0, h1, h2⟩ := rit HK.out hdl
      have FK := Aside0.mk (filter_snoc P (fun p => behindB a b p.1) d hdl)
      skip
      have hrb := HB.out _ (List.getElem_mem hdl)
      subst e
      obtain ⟨p, hp⟩ : ∃ p, P[d] = p := ⟨_, rfl⟩
      rw [hp] at h0 h1 h2 FK hrb 
      obtain ⟨⟨xa, xb, xs⟩, pv⟩ := p
      dsimp only at h0 h1 h2
      unfold RBytes at hrb
      dsimp only at hrb
      obtain ⟨S, cS, rfl⟩ := own_slice2 hrb
      have r0 := cell_bel P3.out h0
      have r1 := cell_bel P3.out h1
      have r2 := cell_bel P3.out h2
      have c1w := cell_bel P3.out c1
      have hz0 : (0 : Int) ≤ (d : Int) := by omega
      have hz1 : (d : Int) < (P.length : Int) := by omega
      clear hp h0 h1 h2 hrb
      by_cases e1 : a < xa
      · have e1b : decide (a < xa) = true := decide_eq_true e1
        have hat : behindB a b (xa, xb, xs) = true := by unfold behindB; simp [e1]
        rw [hat] at FK
        clear e1 hat
        have hown := P2.out
        obtain ⟨hi60, hz60, hs60, hb60⟩ := HZ60.out
        have hwz := P3.out.size
        go_wp2_with (first | (at_builtin; go_loud (refine wpList_append_own _ rfl _ _ 47 rfl w.heap.size 60 i60 _ 3 40 Try.underlying47 hi60 hz60 hs60 hb60 rfl (by decide) _ _ _ rfl (hown.alloc _) ⟨wr.heap.size, 0, none⟩ 1 1 #[.int .i64 xa, .int .i64 xb, .slice S xs.length cS].toList rfl rfl (cells_new _ _ _) (by simp [Value.oneCell']) (by unfold maxLen; omega) (by omega) (by simp; omega) ?_; intro v' w9 hown' hgrow _; obtain ⟨Ap, cq, rfl⟩ := own_slice2 hown'; have O9 := Aside0.mk hown'; have G9 := Aside0.mk hgrow; clear hown' hgrow)))
        go_roundw
        case rel =>
          have hall := (World.grownBy_alloc wr (.cells #[.int .i64 xa, .int .i64 xb, .slice S xs.length cS] 60) (Value.slice Al K.length cl).ownBlock).trans G9.out
          refine ⟨d + 1, Ap, cq, K ++ [((xa, xb, xs), .slice S xs.length cS)], by go_num, by omega, by rw [List.length_append]; rfl, by rw [List.length_append]; simp; omega, ⟨by rw [FK.out, HKK.out]; simp⟩, ⟨?_⟩, ⟨P3.out.grown hall hwz (fun r er => (own_ge hown er).1)⟩⟩
          rw [List.length_append, rf_append]
          exact O9.out
        case measure => simp [intOf]; omega
      · have e1b : decide (a < xa) = false := decide_eq_false e1
        by_cases e2 : xa = a
        · have e2b : (xa == a) = true := by simp [e2]
          by_cases e3 : b < xb
          · have e3b : decide (b < xb) = true := decide_eq_true e3
            have hat : behindB a b (xa, xb, xs) = true := by unfold behindB; simp [e2, e3]
            rw [hat] at FK
            clear e1 e2 e3 hat
            have hown := P2.out
            obtain ⟨hi60, hz60, hs60, hb60⟩ := HZ60.out
            have hwz := P3.out.size
            go_wp2_with (first | (at_builtin; go_loud (refine wpList_append_own _ rfl _ _ 47 rfl w.heap.size 60 i60 _ 3 40 Try.underlying47 hi60 hz60 hs60 hb60 rfl (by decide) _ _ _ rfl (hown.alloc _) ⟨wr.heap.size, 0, none⟩ 1 1 #[.int .i64 xa, .int .i64 xb, .slice S xs.length cS].toList rfl rfl (cells_new _ _ _) (by simp [Value.oneCell']) (by unfold maxLen; omega) (by omega) (by simp; omega) ?_; intro v' w9 hown' hgrow _; obtain ⟨Ap, cq, rfl⟩ := own_slice2 hown'; have O9 := Aside0.mk hown'; have G9 := Aside0.mk hgrow; clear hown' hgrow)))
            go_roundw
            case rel =>
              have hall := (World.grownBy_alloc wr (.cells #[.int .i64 xa, .int .i64 xb, .slice S xs.length cS] 60) (Value.slice Al K.length cl).ownBlock).trans G9.out
              refine ⟨d + 1, Ap, cq, K ++ [((xa, xb, xs), .slice S xs.length cS)], by go_num, by omega, by rw [List.length_append]; rfl, by rw [List.length_append]; simp; omega, ⟨by rw [FK.out, HKK.out]; simp⟩, ⟨?_⟩, ⟨P3.out.grown hall hwz (fun r er => (own_ge hown er).1)⟩⟩
              rw [List.length_append, rf_append]
              exact O9.out
            case measure => simp [intOf]; omega
          · have e3b : decide (b < xb) = false := decide_eq_false e3
            have hat : behindB a b (xa, xb, xs) = false := by unfold behindB; simp [e1, e3]
            rw [hat] at FK
            clear e1 e2 e3 hat
            go_wp2
            go_roundw
            case rel => exact ⟨d + 1, Al, cl, K, by go_num, by omega, rfl, by omega, ⟨by rw [FK.out, HKK.out]; simp⟩, P2, P3⟩
            case measure => simp [intOf]; omega
        · have e2b : (xa == a) = false := by simp [e2]
          have hat : behindB a b (xa, xb, xs) = false := by unfold behindB; simp [e1, e2]
          rw [hat] at FK
          clear e1 e2 hat
          go_wp2
          go_roundw
          case rel => exact ⟨d + 1, Al, cl, K, by go_num, by omega, rfl, by omega, ⟨by rw [FK.out, HKK.out]; simp⟩, P2, P3⟩
          case measure => simp [intOf]; omega
    · have hdb : decide ((d : Int) < (P.length : Int)) = false := decide_eq_false (by omega)
      obtain rfl : d = P.length := by omega
      have hkk := HKK.out
      rw [List.take_length] at hkk
      have hln := filter_two P (fun p => behindB a b p.1)
      rw [← hkk] at hln
      have hsub : (P.length : Int) - (K.length : Int) = ((P.filter (fun p => !behindB a b p.1)).length : Int) := by omega
      have HK2 := Aside0.mk hkk
      have HSUB := Aside0.mk hsub
      have c1w := cell_bel P3.out c1
      have f1w : wr.frozen? ⟨h, 1, none⟩ = false := blk_frozen (HK.out.below P3.out).1 1
      clear hkk hln hsub HKK
      go_wp2
      go_ret
      rw [← HK2.out, ← HSUB.out]
      have hR := HK.out.below P3.out
      have hgr := grownBy_setC wr ⟨h, 1, none⟩ (.slice Al K.length cl)
      refine ⟨Al, cl, rfl, ⟨blk_put hR.1 1 _ rfl, hR.2.1, Go.Joins.ownsRow_le (P2.out.kept hgr (Or.inr (own_off P2.out hR.1 (by decide)))) (by have := HK.out.2.1; omega), fun p hp => ?_⟩, Upd.setCell (S := fun j => j = h) (p := ⟨h, 1, none⟩) (Upd.of_below P3.out) (Or.inl rfl) _⟩
      rw [HK2.out] at hp
      have hb := hR.2.2.2 p (List.mem_filter.1 hp).1
      exact World.ownsRow.kept hb hgr (Or.inr (own_off hb hR.1 (by decide)))
end Go.Proofs.Ytoeaoanaefipaaa.Bfh
