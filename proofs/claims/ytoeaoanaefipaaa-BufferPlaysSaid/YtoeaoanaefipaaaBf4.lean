/- The fullest cell of a buffer. -/
import Derived.Test.YtoeaoanaefipaaaProg
import Derived.Below
import Derived.Deep.Draws
import Derived.Deep.AppendLies
import Derived.Maps.AppendAt
import Derived.OwnWalk
import Derived.Laws.BytesArg
import Derived.Laws.MakeOwn
import Derived.Laws.OwnMore
import Derived.Deep.OwnRows
import Derived.Tactics
import Derived.Lib.ConvBytes
import Derived.Laws.Slices
import Derived.WalkKit
import Derived.KernelRfl
import Derived.RowKit3
import Derived.Deep.LoopGhost
import Derived.Deep.QuietTactic
import Derived.BigQuiet
import Derived.WideLaws
import Derived.Deep.DeepCutAuto
import Derived.Deep.CutBlock
import Derived.Deep.RegionHeld3
import Derived.Laws.Rows
import Derived.Lib.AppendStr
import Derived.ArgAppend
import Derived.Laws.IdiomCopy
import Derived.OrdersHeld
import Derived.Laws.BitsLemmas
import Derived.RowKit
import Derived.RegionTactic
import Derived.ChangeAlike
import Derived.Outline
import Derived.LoopTactic
import Derived.WalkSpells
import Derived.WalkLawsBesides
import Derived.Lib.Hide
import Derived.StillTailTactics
import Derived.Deep.RegionWith
import Derived.Deep.RegionLaw
import Derived.Deep.DeepFit
import Derived.Deep.DeepMust
import Derived.Test.YtoeaoanaefipaaaWWords
import Derived.Test.YtoeaoanaefipaaaWLast
import Derived.Test.YtoeaoanaefipaaaWTab
import Derived.Test.YtoeaoanaefipaaaWFour
import Derived.Test.YtoeaoanaefipaaaWQPut
import Derived.Test.YtoeaoanaefipaaaWApart
import Derived.Test.YtoeaoanaefipaaaWArr
import Derived.Test.YtoeaoanaefipaaaWZeros
import Derived.Test.YtoeaoanaefipaaaWFoot
import Derived.Test.YtoeaoanaefipaaaWKept
import Derived.Test.YtoeaoanaefipaaaWShare
import Derived.Test.YtoeaoanaefipaaaWN
import Derived.Test.YtoeaoanaefipaaaWFootNe
import Derived.Test.YtoeaoanaefipaaaWAt
import Derived.Test.YtoeaoanaefipaaaWEqStruct
import Derived.Test.YtoeaoanaefipaaaWRepsOne
import Derived.Test.YtoeaoanaefipaaaWInv
import Derived.Test.YtoeaoanaefipaaaWInvWords
import Derived.Test.YtoeaoanaefipaaaWGuard
import Derived.Test.YtoeaoanaefipaaaWNEv
import Derived.Test.YtoeaoanaefipaaaWMore
import Derived.Test.YtoeaoanaefipaaaBf3
import Derived.Test.YtoeaoanaefipaaaBfP
namespace Go.Proofs.Ytoeaoanaefipaaa.Bf4
open Go.RowKit Go.Proofs.YtoeaoanaefipaaaW.PrintWords Go.Proofs.YtoeaoanaefipaaaW.PrintLast Go.Proofs.YtoeaoanaefipaaaW.PrintMore 
attribute [local go_sem] max2_int min2_int max_two min_two max_three min_three max_four min_four
set_option linter.unusedVariables false
set_option linter.unusedSimpArgs false
open Go.Maps Go.ChangeMaps Go.Proofs.Ytoeaoanaefipaaa.Bf1 Go.Proofs.Ytoeaoanaefipaaa.Bf2 Go.Proofs.Ytoeaoanaefipaaa.Bf3 Go.Proofs.Ytoeaoanaefipaaa.BfP
attribute [local go_sem] cellS1 frozenS1 cellS2 frozenS2 cellS3 frozenS3 cellS4 frozenS4 cellS5 frozenS5 cellS6 frozenS6

theorem cell_bel {w w' : World} (hb : Below w.heap.size w w') {a : Addr} {v : Value} (h : w.cell? a = some v) : w'.cell? a = some v := (hb.cell (World.block_lt_of_cell? w _ h)).trans h
theorem blk_new1 (w : World) (o o' : Obj) : ((w.alloc o).alloc o').heap[w.heap.size + 1]? = some o' := by rw [← World.size_alloc w o]; exact blk_new _ _
theorem wf64 {a : Int} (h0 : -9223372036854775808 ≤ a) (h1 : a ≤ 9223372036854775807) : (Lit.int .i64 a).wf = true := by
  simp [Lit.wf, IntKind.min, IntKind.max, IntKind.signed, IntKind.bits]; omega
set_option maxRecDepth 100000 in
set_option maxHeartbeats 4000000 in
theorem fullest_ok (g bm : Nat) (mo : Int) (A : Option Addr) (c : Nat) (lo : Int) (b n : Nat) (L : List It) (z w : World) (hI : IsB z w g bm mo (.slice A L.length c) lo) (hr : w.ownsRow b 53 3 (.slice A L.length c) L.length (flat3 L)) (hM : CMap w bm n (fun x y => (cnt L x y : Int))) (hL : ∀ x ∈ L, ItOk x) (hm : L.length ≤ 64) : Calls Try.prog 22 #[.pointer (some ⟨g, 0, none⟩)] w fun en w' => en = .returned (kv (fullF L).1 (fullF L).2) ∧ Below w.heap.size w w' := by
  have HI := Aside0.mk hI
  have HR := Aside0.mk hr
  have HM := Aside0.mk hM
  have HL := Aside0.mk hL
  have c1 : w.cell? ⟨g, 1, none⟩ = some (.slice A L.length c) := (blk_cell hI.1 1).trans rfl
  clear hI hr hM hL
  go_enter Try.func22, Try.ntmps22
  go_wp2
  go_loopw [11] (fun vi wr => ∃ d : Nat, vi = .int .i64 d ∧ d ≤ L.length ∧ Aside0 (wr.heap[w.heap.size]? = some (.cells #[.int .i64 0, .int .i64 0] 51 (0, 0))) ∧ Aside0 (wr.heap[w.heap.size + 1]? = some (.cells #[.int .i64 (fullT L d).1, .int .i64 (fullT L d).2] 51 (0, 0))) ∧ Aside0 (Below w.heap.size w wr)) (fun vi _ => L.length - (intOf vi).toNat)
  case atStart => exact ⟨0, rfl, Nat.zero_le _, ⟨blk_alloc (blk_new _ _) _⟩, ⟨blk_new1 _ _ _⟩, ⟨below_alloc (below_alloc (Below.refl _ _) _) _⟩⟩
  case round =>
    obtain ⟨d, rfl, hd, P1, P2, P3⟩ := hrel
    by_cases hdl : d < L.length
    · have hdb : decide ((d : Int) < (L.length : Int)) = true := decide_eq_true (by omega)
      obtain ⟨gr, e, hbg, h0, h1, h2⟩ := row_it HR.out hdl
      subst e
      obtain ⟨x, hx⟩ : ∃ x, L[d] = x := ⟨_, rfl⟩
      have HX := Aside0.mk hx
      have hok : ItOk x := hx ▸ HL.out _ (List.getElem_mem hdl)
      rw [hx] at h0 h1 h2
      obtain ⟨bb, hbb⟩ : ∃ s, fullT L d = s := ⟨_, rfl⟩
      have HBB := Aside0.mk hbb
      rw [hbb] at P2
      clear hx hbb
      have r0 := cell_bel P3.out h0
      have r1 := cell_bel P3.out h1
      have r2 := cell_bel P3.out h2
      have b0 : wr.cell? ⟨w.heap.size + 1, 0, none⟩ = some (.int .i64 bb.1) := (blk_cell P2.out 0).trans rfl
      have b1 : wr.cell? ⟨w.heap.size + 1, 1, none⟩ = some (.int .i64 bb.2) := (blk_cell P2.out 1).trans rfl
      clear h0 h1 h2
      go_upto_region 5 with (fail)
      refine wp_gen (fun W => W.heap[wr.heap.size]? = some (.cells #[.int .i64 x.1, .int .i64 x.2.1, .string (strOfNums x.2.2)] 53 (0, 0)) ∧ W.heap[w.heap.size]? = some (.cells #[.int .i64 0, .int .i64 0] 51 (0, 0)) ∧ W.heap[w.heap.size + 1]? = some (.cells #[.int .i64 bb.1, .int .i64 bb.2] 51 (0, 0)) ∧ Below w.heap.size w W) ⟨blk_new _ _, blk_alloc P1.out _, blk_alloc P2.out _, below_alloc P3.out _⟩ ?_
      clear r0 r1 r2 b0 b1
      rintro W ⟨q1, q2, q3, q4⟩
      have Q1 := Aside0.mk q1
      have Q2 := Aside0.mk q2
      have Q3 := Aside0.mk q3
      have Q4 := Aside0.mk q4
      have x0 : W.cell? ⟨wr.heap.size, 0, none⟩ = some (.int .i64 x.1) := (blk_cell q1 0).trans rfl
      have x1 : W.cell? ⟨wr.heap.size, 1, none⟩ = some (.int .i64 x.2.1) := (blk_cell q1 1).trans rfl
      have x2 : W.cell? ⟨wr.heap.size, 2, none⟩ = some (.string (strOfNums x.2.2)) := (blk_cell q1 2).trans rfl
      have b0 : W.cell? ⟨w.heap.size + 1, 0, none⟩ = some (.int .i64 bb.1) := (blk_cell q3 0).trans rfl
      have b1 : W.cell? ⟨w.heap.size + 1, 1, none⟩ = some (.int .i64 bb.2) := (blk_cell q3 1).trans rfl
      have f0 : W.frozen? ⟨w.heap.size + 1, 0, none⟩ = false := blk_frozen q3 0
      have f1 : W.frozen? ⟨w.heap.size + 1, 1, none⟩ = false := blk_frozen q3 1
      have g2 : W.cell? ⟨g, 2, none⟩ = some (.map (some bm)) := cell_bel q4 ((blk_cell HI.out.1 2).trans rfl)
      have MW := CMap.below HM.out q4
      have hw := fullT_wf L HL.out d (by omega)
      rw [HBB.out] at hw
      unfold ItOk at hok
      have l1 : ∀ m, (Instr.lookup 37 (.map (some bm)) (.agg #[.int .i64 x.1, .int .i64 x.2.1]) false).run Try.prog (W.drewN m) = .ok (.int .i64 (cnt L x.1 x.2.1 : Int)) (W.drewN m) := fun m => (MW.drewN m).look (wf64 (by omega) (by omega)) (wf64 (by omega) (by omega))
      have l2 : ∀ m, (Instr.lookup 37 (.map (some bm)) (.agg #[.int .i64 bb.1, .int .i64 bb.2]) false).run Try.prog (W.drewN m) = .ok (.int .i64 (cnt L bb.1 bb.2 : Int)) (W.drewN m) := fun m => (MW.drewN m).look (wf64 (by omega) (by omega)) (wf64 (by omega) (by omega))
      clear q1 q2 q3 q4 MW hok hw
      by_cases hc : cnt L bb.1 bb.2 < cnt L x.1 x.2.1
      · have hst : fullT L (d + 1) = (x.1, x.2.1) := by rw [fullT_succ L d hdl, HBB.out, HX.out]; unfold stF; rw [if_pos hc]
        go_quiet (fail)
        go_wp2
        go_roundw
        case rel => exact ⟨d + 1, by go_num, by omega, ⟨blk_far (blk_far (blk_drewN Q2.out _) (Nat.ne_of_lt (Nat.lt_succ_self _)) _) (Nat.ne_of_lt (Nat.lt_succ_self _)) _⟩, ⟨by rw [hst]; exact blk_put (blk_put (blk_drewN Q3.out _) 0 _ rfl) 1 _ rfl⟩, ⟨below_set (below_set (pw_below_drewN Q4.out _) (Nat.le_succ _)) (Nat.le_succ _)⟩⟩
        case measure => simp [intOf]; omega
      · have hst : fullT L (d + 1) = bb := by rw [fullT_succ L d hdl, HBB.out, HX.out]; unfold stF; rw [if_neg hc]
        go_quiet (fail)
        go_wp2
        go_roundw
        case rel => exact ⟨d + 1, by go_num, by omega, ⟨Q2.out⟩, ⟨by rw [hst]; exact Q3.out⟩, ⟨pw_below_drewN Q4.out _⟩⟩
        case measure => simp [intOf]; omega
    · have hdb : decide ((d : Int) < (L.length : Int)) = false := decide_eq_false (by omega)
      have p1 := P1.out
      have p2 := P2.out
      have e0 : wr.cell? ⟨w.heap.size, 0, none⟩ = some (.int .i64 0) := (blk_cell p1 0).trans rfl
      have e1 : wr.cell? ⟨w.heap.size, 1, none⟩ = some (.int .i64 0) := (blk_cell p1 1).trans rfl
      have f0 : wr.frozen? ⟨w.heap.size, 0, none⟩ = false := blk_frozen p1 0
      have f1 : wr.frozen? ⟨w.heap.size, 1, none⟩ = false := blk_frozen p1 1
      have b0 : wr.cell? ⟨w.heap.size + 1, 0, none⟩ = some (.int .i64 (fullT L d).1) := (blk_cell p2 0).trans rfl
      have b1 : wr.cell? ⟨w.heap.size + 1, 1, none⟩ = some (.int .i64 (fullT L d).2) := (blk_cell p2 1).trans rfl
      have hdl2 : d = L.length := by omega
      have HDL := Aside0.mk hdl2
      clear p1 p2 hdl2
      go_wp2
      refine bodyPost_ret (results_c1 (p := 2) (g := w.heap.size) (t := 51) (cs := #[.int .i64 (fullT L d).1, .int .i64 (fullT L d).2]) (fr := (0, 0)) ?h1 (w := _) (tmps := _) (d := _) (hp := ?h2) (hg := ?hg) (hu := Try.underlying51) (hd := rfl) (hi := by kernel_rfl)) rfl ?_
      case h1 => rfl
      case h2 => rfl
      case hg => exact blk_put (blk_put P1.out 0 _ rfl) 1 _ rfl
      refine ⟨by rw [HDL.out]; rfl, below_set (below_set P3.out (Nat.le_refl _)) (Nat.le_refl _)⟩
end Go.Proofs.Ytoeaoanaefipaaa.Bf4
