/- What is taken out of a buffer: the walk. -/
import Derived.Test.YtoeaoanaefipaaaProg
import Derived.Below
import Derived.Deep.Draws
import Derived.Deep.AppendLies
import Derived.Maps.AppendAt
import Derived.OwnWalk
import Derived.Laws.BytesArg
import Derived.Laws.MakeOwn
import Derived.Laws.OwnMore
import Derived.Deep.OwnRows
import Derived.Tactics
import Derived.Lib.ConvBytes
import Derived.Laws.Slices
import Derived.WalkKit
import Derived.KernelRfl
import Derived.RowKit3
import Derived.Deep.LoopGhost
import Derived.Deep.QuietTactic
import Derived.BigQuiet
import Derived.WideLaws
import Derived.Deep.DeepCutAuto
import Derived.Deep.CutBlock
import Derived.Deep.RegionHeld3
import Derived.Laws.Rows
import Derived.Lib.AppendStr
import Derived.ArgAppend
import Derived.Laws.IdiomCopy
import Derived.OrdersHeld
import Derived.Laws.BitsLemmas
import Derived.RowKit
import Derived.RegionTactic
import Derived.ChangeAlike
import Derived.Outline
import Derived.LoopTactic
import Derived.WalkSpells
import Derived.WalkLawsBesides
import Derived.Lib.Hide
import Derived.StillTailTactics
import Derived.Deep.RegionWith
import Derived.Deep.RegionLaw
import Derived.Deep.DeepFit
import Derived.Deep.DeepMust
import Derived.Test.YtoeaoanaefipaaaWWords
import Derived.Test.YtoeaoanaefipaaaWLast
import Derived.Test.YtoeaoanaefipaaaWTab
import Derived.Test.YtoeaoanaefipaaaWFour
import Derived.Test.YtoeaoanaefipaaaWQPut
import Derived.Test.YtoeaoanaefipaaaWApart
import Derived.Test.YtoeaoanaefipaaaWArr
import Derived.Test.YtoeaoanaefipaaaWZeros
import Derived.Test.YtoeaoanaefipaaaWFoot
import Derived.Test.YtoeaoanaefipaaaWKept
import Derived.Test.YtoeaoanaefipaaaWShare
import Derived.Test.YtoeaoanaefipaaaWN
import Derived.Test.YtoeaoanaefipaaaWFootNe
import Derived.Test.YtoeaoanaefipaaaWAt
import Derived.Test.YtoeaoanaefipaaaWEqStruct
import Derived.Test.YtoeaoanaefipaaaWRepsOne
import Derived.Test.YtoeaoanaefipaaaWInv
import Derived.Test.YtoeaoanaefipaaaWInvWords
import Derived.Test.YtoeaoanaefipaaaWGuard
import Derived.Test.YtoeaoanaefipaaaWNEv
import Derived.Test.YtoeaoanaefipaaaWMore
import Derived.Test.YtoeaoanaefipaaaBf6
namespace Go.Proofs.Ytoeaoanaefipaaa.Bf7
open Go.RowKit Go.Proofs.YtoeaoanaefipaaaW.PrintWords Go.Proofs.YtoeaoanaefipaaaW.PrintLast Go.Proofs.YtoeaoanaefipaaaW.PrintMore 
attribute [local go_sem] max2_int min2_int max_two min_two max_three min_three max_four min_four
set_option linter.unusedVariables false
set_option linter.unusedSimpArgs false
open Go.Maps Go.ChangeMaps Go.Proofs.Ytoeaoanaefipaaa.Bf1 Go.Proofs.Ytoeaoanaefipaaa.Bf2 Go.Proofs.Ytoeaoanaefipaaa.Bf3 Go.Proofs.Ytoeaoanaefipaaa.BfP Go.Proofs.Ytoeaoanaefipaaa.Bf4 Go.Proofs.Ytoeaoanaefipaaa.Bf5 Go.Proofs.Ytoeaoanaefipaaa.Bf6
attribute [local go_sem] cellS1 frozenS1 cellS2 frozenS2 cellS3 frozenS3 cellS4 frozenS4 cellS5 frozenS5 cellS6 frozenS6
set_option maxRecDepth 100000 in
set_option maxHeartbeats 2000000 in
theorem out25_ok (g bm : Nat) (mo : Int) (A : Option Addr) (c : Nat) (lo : Int) (n : Nat) (L : List It) (cp : Nat) (ccs : Array Value) (ct : TypeId) (k : Nat → It → Bool) (z w : World) (hI : IsB z w g bm mo (.slice A L.length c) lo) (hr : w.ownsRow z.heap.size 53 3 (.slice A L.length c) L.length (flat3 L)) (hM : CMap w bm n (fun x y => (cnt L x y : Int))) (hL : ∀ x ∈ L, ItOk x) (hm : L.length ≤ 64) (hn : n + 64 < maxLen) (hzb : z.heap.size ≤ bm) (hcp : w.heap[cp]? = some (.cells ccs ct (0, 0)))
    (hk : ∀ (i : Nat) (x : It) (W : World), W.heap[cp]? = some (.cells ccs ct (0, 0)) → Calls Try.prog 25 #[.int .i64 i, iv x, .pointer (some ⟨cp, 0, none⟩)] W fun en w' => en = .returned (.bool (k i x)) ∧ Below W.heap.size W w') :
    Calls Try.prog 24 #[.pointer (some ⟨g, 0, none⟩), .func (.func 25) #[] #[.pointer (some ⟨cp, 0, none⟩)]] w fun en w' => ∃ (Ag Al : Option Addr) (cg cl n' : Nat), en = .returned (.slice Ag (outG k L).length cg) ∧ Gone w' w.heap.size (.slice Ag (outG k L).length cg) (outG k L) ∧ IsB z w' g bm mo (.slice Al (outK k L).length cl) lo ∧ w'.ownsRow z.heap.size 53 3 (.slice Al (outK k L).length cl) (outK k L).length (flat3 (outK k L)) ∧ CMap w' bm n' (fun x y => (cnt (outK k L) x y : Int)) ∧ n' ≤ n + 64 ∧ Upd (fun j => j = g ∨ j = bm) w w' := by
  obtain ⟨i53, hi53, hz53, hs53, hb53⟩ := info_parts info53
  obtain ⟨i27, hi27, hz27, hs27, hb27⟩ := info_parts info27
  have HI := Aside0.mk hI
  have HR := Aside0.mk hr
  have HM := Aside0.mk hM
  have HL := Aside0.mk hL
  have HCP := Aside0.mk hcp
  have HK := Aside0.mk hk
  have HZS := Aside0.mk (And.intro hi53 (And.intro hz53 (And.intro hs53 hb53)))
  have HZT := Aside0.mk (And.intro hi27 (And.intro hz27 (And.intro hs27 hb27)))
  have hlen := hm
  have hn0 := hn
  unfold maxLen at hn0
  have c1 : w.cell? ⟨g, 1, none⟩ = some (.slice A L.length c) := (blk_cell hI.1 1).trans rfl
  have hbmg : bm ≠ g := by
    obtain ⟨o, h1, h2⟩ := CMap.obj hM
    intro e
    subst e
    rw [hI.1] at h1
    cases h1
    exact h2 _ _ _ rfl
  have hcpb : cp ≠ bm := by
    obtain ⟨o, h1, h2⟩ := CMap.obj hM
    intro e
    subst e
    rw [hcp] at h1
    cases h1
    exact h2 _ _ _ rfl
  have HBM := Aside0.mk hbmg
  have HCB := Aside0.mk hcpb
  have hgl := blk_lt hI.1
  have hcl := blk_lt hcp
  clear hI hr hM hL hcp hk hi53 hz53 hs53 hb53 hi27 hz27 hs27 hb27 hbmg hcpb
  go_enter Try.func24, Try.ntmps24
  go_wp2
  go_loopw [5, 6, 14] (fun vg vl vi wr => ∃ (d n' : Nat) (Ag Al : Option Addr) (cg cl : Nat) (G K : List It), vi = .int .i64 d ∧ d ≤ L.length ∧ vg = .slice Ag G.length cg ∧ vl = .slice Al K.length cl ∧ n' ≤ n + d ∧ G.length ≤ d ∧ K.length ≤ d ∧ Aside0 (G = outG k (L.take d)) ∧ Aside0 (K = outK k (L.take d)) ∧ Aside0 (Gone wr w.heap.size (.slice Ag G.length cg) G) ∧ Aside0 (wr.ownsRow w.heap.size 53 3 (.slice Al K.length cl) K.length (flat3 K)) ∧ Aside0 (CMap wr bm n' (fun x y => (cnt (K ++ L.drop d) x y : Int))) ∧ Aside0 (Upd (fun j => j = bm) w wr)) (fun _ _ vi _ => L.length - (intOf vi).toNat)
  case atStart => exact ⟨0, n, none, none, 0, 0, [], [], rfl, Nat.zero_le _, rfl, rfl, Nat.le_refl _, Nat.le_refl _, Nat.le_refl _, ⟨rfl⟩, ⟨rfl⟩, ⟨Gone.nil _ _⟩, ⟨World.ownsRow_nil _ _ _ _⟩, HM, ⟨Upd.refl _ _⟩⟩
  case round =>
    obtain ⟨d, n', Ag, Al, cg, cl, G, K, rfl, hd, rfl, rfl, hnd, hgd, hkd, HG, HKK, P1, P2, P3, P4⟩ := hrel
    by_cases hdl : d < L.length
    · have hdb : decide ((d : Int) < (L.length : Int)) = true := decide_eq_true (by omega)
      obtain ⟨gr, e, hbg, h0, h1, h2⟩ := row_it HR.out hdl
      subst e
      have hne : gr ≠ bm := by
        obtain ⟨o, ho, hc⟩ := CMap.obj HM.out
        exact fun e => own_offm HR.out ho hc (by rw [← e]; rfl)
      have hx0 := List.getElem_mem hdl
      have SP := Aside0.mk (step_pos K L d hdl)
      have SG := Aside0.mk (step_gone K L d hdl)
      have SK := Aside0.mk (step_keep K L d hdl)
      have OK1 := Aside0.mk (outK_succ k L d hdl)
      have OG1 := Aside0.mk (outG_succ k L d hdl)
      have hok := HL.out _ hx0
      obtain ⟨x, hx⟩ : ∃ x, L[d] = x := ⟨_, rfl⟩
      rw [hx] at h0 h1 h2 SP SG SK OK1 OG1 hok
      clear hx hx0
      obtain ⟨xa, xb, xs⟩ := x
      dsimp only at h0 h1 h2 SP SG
      obtain ⟨o1, o2, o3, o4, o5, o6⟩ := hok
      dsimp only at o1 o2 o3 o4 o5 o6
      have O6 := Aside0.mk o6
      clear o6
      have r0 := P4.out.cellF h0 hne
      have r1 := P4.out.cellF h1 hne
      have r2 := P4.out.cellF h2 hne
      clear h0 h1 h2
      have wsz := P4.out.size
      go_upto_region 6 with (fail)
      refine wp_gen (fun W => W.heap[wr.heap.size]? = some (.cells #[.int .i64 xa, .int .i64 xb, .string (strOfNums xs)] 53 (0, 0)) ∧ Gone W w.heap.size (.slice Ag G.length cg) G ∧ W.ownsRow w.heap.size 53 3 (.slice Al K.length cl) K.length (flat3 K) ∧ CMap W bm n' (fun x y => (cnt (K ++ L.drop d) x y : Int)) ∧ Upd (fun j => j = bm) w W) ⟨blk_new _ _, P1.out.below (below_alloc (Below.refl _ _) _), P2.out.kept (World.grownBy_alloc _ _ none) (by cases (Value.slice Al K.length cl).ownBlock <;> simp), P3.out.alloc _, P4.out.alloc _⟩ ?_
      clear r0 r1 r2 P1 P2 P3 P4
      rintro W ⟨q1, q2, q3, q4, q5⟩
      have hcW : W.heap[cp]? = some (.cells ccs ct (0, 0)) := q5.far HCP.out HCB.out
      have hkk := HK.out d (xa, xb, xs) W hcW
      unfold iv at hkk
      dsimp only at hkk
      obtain ⟨kb, hkb⟩ : ∃ kb, k d (xa, xb, xs) = kb := ⟨_, rfl⟩
      rw [hkb] at hkk OK1 OG1
      have Q1 := Aside0.mk q1
      have Q2 := Aside0.mk q2
      have Q3 := Aside0.mk q3
      have Q4 := Aside0.mk q4
      have Q5 := Aside0.mk q5
      have HKB := Aside0.mk hkk
      have x0 : W.cell? ⟨wr.heap.size, 0, none⟩ = some (.int .i64 xa) := (blk_cell q1 0).trans rfl
      have x1 : W.cell? ⟨wr.heap.size, 1, none⟩ = some (.int .i64 xb) := (blk_cell q1 1).trans rfl
      have x2 : W.cell? ⟨wr.heap.size, 2, none⟩ = some (.string (strOfNums xs)) := (blk_cell q1 2).trans rfl
      have hwW := q5.size
      clear q1 q2 q3 q4 q5 hcW hkk hkb
      cases kb with
      | true =>
        go_upto_region 7 with (first | (go_at_call 25; go_loud (refine (HKB.out).mono ?_; rintro en w2 ⟨rfl, hb2⟩; have B2 := Aside0.mk hb2; have y0 := cell_bel hb2 x0; have y1 := cell_bel hb2 x1; have y2 := cell_bel hb2 x2; clear hb2 x0 x1 x2)))
        have hown := Q3.out.kept (row := none) (grown_below B2.out) (by cases (Value.slice Al K.length cl).ownBlock <;> simp)
        obtain ⟨hi53, hz53, hs53, hb53⟩ := HZS.out
        have w2W := B2.out.size
        go_wp2_with (first | (at_builtin; go_loud (refine wpList_append_own _ rfl _ _ 36 rfl w.heap.size 53 i53 _ 3 32 Try.underlying36 hi53 hz53 hs53 hb53 rfl (by decide) _ _ _ rfl (hown.alloc _) ⟨w2.heap.size, 0, none⟩ 1 1 #[.int .i64 xa, .int .i64 xb, .string (strOfNums xs)].toList rfl rfl (cells_new _ _ _) (by simp [Value.oneCell']) (by unfold maxLen; omega) (by omega) (by simp; omega) ?_; intro v' w9 hown' hgrow _; obtain ⟨Ap, cq, rfl⟩ := own_slice2 hown'; have O9 := Aside0.mk hown'; have G9 := Aside0.mk hgrow; clear hown' hgrow)))
        go_roundw
        case rel =>
          have hall := (World.grownBy_alloc w2 (.cells #[.int .i64 xa, .int .i64 xb, .string (strOfNums xs)] 53) (Value.slice Al K.length cl).ownBlock).trans G9.out
          have hC2 := CMap.below Q4.out B2.out
          refine ⟨d + 1, n', Ag, Ap, cg, cq, G, K ++ [(xa, xb, xs)], by go_num, by omega, rfl, by rw [List.length_append]; rfl, by omega, by omega, by rw [List.length_append]; simp; omega, ⟨?_⟩, ⟨?_⟩, ⟨?_⟩, ⟨?_⟩, ⟨?_⟩, ⟨?_⟩⟩
          · rw [OG1.out, HG.out]; simp
          · rw [OK1.out, HKK.out]; simp
          · exact (Q2.out.below B2.out).row hown (by decide) hall
          · rw [List.length_append, flat3_snoc]; exact O9.out
          · rw [← SK.out]
            obtain ⟨o, ho, hc⟩ := CMap.obj hC2
            exact hC2.kept hall (own_offm hown ho hc).symm
          · exact upd_grown (upd_below Q5.out B2.out) hall (fun r er => Or.inr (own_ge hown er).1)
        case measure => simp [intOf]; omega
      | false =>
        go_upto_region 8 with (first | (go_at_call 25; go_loud (refine (HKB.out).mono ?_; rintro en w2 ⟨rfl, hb2⟩; have B2 := Aside0.mk hb2; have y0 := cell_bel hb2 x0; have y1 := cell_bel hb2 x1; have y2 := cell_bel hb2 x2; clear hb2 x0 x1 x2)))
        obtain ⟨cb, W3, hcv, b3, hs3, hb3⟩ := bytes_new w2 xs O6.out
        obtain ⟨vs, hown, hbs⟩ := (Q2.out.below B2.out).below b3
        obtain ⟨hi27, hz27, hs27, hb27⟩ := HZT.out
        have HB3 := Aside0.mk hb3
        have HBS := Aside0.mk hbs
        have B3 := Aside0.mk b3
        have w2W := B2.out.size
        have w3W := b3.size
        clear hb3 hbs b3 hs3
        go_upto_region 9 with (first | (at_builtin; go_loud (refine wpList_append_own _ rfl _ _ 28 rfl w.heap.size 27 i27 _ 1 24 Try.underlying28 hi27 hz27 hs27 hb27 rfl (by decide) _ _ _ rfl (hown.alloc _) ⟨W3.heap.size, 0, none⟩ 1 1 [.slice (some ⟨w2.heap.size, 0, none⟩) xs.length cb] rfl rfl (cell_one_new _ _ _) (by simp [Value.oneCell']) (by unfold maxLen; omega) (by omega) (by simp; omega) ?_; intro v' w9 hown' hgrow _; obtain ⟨Ap, cq, rfl⟩ := own_slice2 hown'; have O9 := Aside0.mk hown'; have G9 := Aside0.mk hgrow; clear hown' hgrow)))
        have hsp := SP.out
        have hsg := SG.out
        obtain ⟨c1, hc1⟩ : ∃ c1, cnt (K ++ L.drop (d + 1)) xa xb = c1 := ⟨_, rfl⟩
        have hc1b : c1 ≤ 128 := by have := cnt_le (K ++ L.drop (d + 1)) xa xb; rw [List.length_append, List.length_drop] at this; omega
        rw [hc1] at hsp hsg
        have SG2 := Aside0.mk hsg
        refine wp_gen (fun V => V.heap[wr.heap.size]? = some (.cells #[.int .i64 xa, .int .i64 xb, .string (strOfNums xs)] 53 (0, 0)) ∧ Gone V w.heap.size (.slice Ap (G.length + 1) cq) (G ++ [(xa, xb, xs)]) ∧ V.ownsRow w.heap.size 53 3 (.slice Al K.length cl) K.length (flat3 K) ∧ CMap V bm n' (fun x y => (cnt (K ++ L.drop d) x y : Int)) ∧ Upd (fun j => j = bm) w V ∧ IsB z V g bm mo (.slice (some ⟨gr, 0, none⟩) L.length c) lo) ?_ ?_
        · have hall := (World.grownBy_alloc W3 (.cells #[.slice (some ⟨w2.heap.size, 0, none⟩) xs.length cb] 27) (Value.slice Ag G.length cg).ownBlock).trans G9.out
          have hC2 := (CMap.below Q4.out B2.out).below B3.out
          have hO2 := (Q3.out.kept (row := none) (grown_below B2.out) (by cases (Value.slice Al K.length cl).ownBlock <;> simp)).kept (row := none) (grown_below B3.out) (by cases (Value.slice Al K.length cl).ownBlock <;> simp)
          have hX := blk_below (blk_below Q1.out B2.out) B3.out
          have hU := upd_grown (upd_below (upd_below Q5.out B2.out) B3.out) hall (fun r er => Or.inr (own_ge hown er).1)
          refine ⟨(hall.block _ (blk_lt hX) (own_off hown hX (by decide)).symm).trans hX, Gone.snoc hown HBS.out ?_ O9.out G9.out, hO2.kept hall (own_apart hO2 hown (by decide)), ?_, hU, ⟨hU.far HI.out.1 (fun e => HBM.out e.symm), HI.out.2⟩⟩
          · obtain ⟨k1, c2, cs, fr, e1, e2, e3, e4⟩ := HB3.out
            exact ⟨k1, c2, cs, fr, e1, by omega, e3, e4⟩
          · obtain ⟨o, ho, hc⟩ := CMap.obj hC2
            exact hC2.kept hall (own_offm hown ho hc).symm
        clear hown y0 y1 y2 HB3 HBS O9 G9 hcv B2 B3 Q1 Q2 Q3 Q4 Q5 HKB hsg
        rintro V ⟨q1, q2, q3, q4, q5, q6⟩
        have Q1 := Aside0.mk q1
        have Q2 := Aside0.mk q2
        have Q3 := Aside0.mk q3
        have Q5 := Aside0.mk q5
        have Q6 := Aside0.mk q6
        have x0 : V.cell? ⟨wr.heap.size, 0, none⟩ = some (.int .i64 xa) := (blk_cell q1 0).trans rfl
        have x1 : V.cell? ⟨wr.heap.size, 1, none⟩ = some (.int .i64 xb) := (blk_cell q1 1).trans rfl
        have g2 : V.cell? ⟨g, 2, none⟩ = some (.map (some bm)) := (blk_cell q6.1 2).trans rfl
        have l1 : (Instr.lookup 37 (.map (some bm)) (.agg #[.int .i64 xa, .int .i64 xb]) false).run Try.prog V.drew = .ok (.int .i64 ((c1 : Int) + 1)) V.drew := by
          have := CMap.look (w := V.drew) (a := xa) (b := xb) q4 (wf64 (by omega) (by omega)) (wf64 (by omega) (by omega))
          rw [hsp] at this
          exact this
        obtain ⟨v0, st, w1, hent, hmid, hst⟩ := CMap.entry2 (w := V.drew) (a := xa) (b := xb) q4 (by unfold maxLen; omega) (wf64 (by omega) (by omega)) (wf64 (by omega) (by omega))
        obtain ⟨w6, hes, m6, t6⟩ := hst (c1 : Int) (wf64 (by omega) (by omega))
        have l2 : (Instr.lookup 37 (.map (some bm)) (.agg #[.int .i64 xa, .int .i64 xb]) false).run Try.prog w1 = .ok (.int .i64 ((c1 : Int) + 1)) w1 := by
          rw [hsp] at hmid
          exact hmid
        unfold kv at hent
        replace hes : (Instr.entryStore 37 (.map (some bm)) (.int .i64 (st : Int)) (.int .i64 (c1 : Int))).run Try.prog w1 = .ok () w6 := hes
        rw [SG2.out] at m6
        have M6 := Aside0.mk m6
        have T6 := Aside0.mk t6
        have Q4 := Aside0.mk q4
        clear q1 q2 q3 q4 q5 q6 hst m6 t6 hsp hmid
        go_region
        all_goals go_upto_region 10 with (fail)
        refine wp_gen (fun V => V.heap[wr.heap.size]? = some (.cells #[.int .i64 xa, .int .i64 xb, .string (strOfNums xs)] 53 (0, 0)) ∧ Gone V w.heap.size (.slice Ap (G.length + 1) cq) (G ++ [(xa, xb, xs)]) ∧ V.ownsRow w.heap.size 53 3 (.slice Al K.length cl) K.length (flat3 K) ∧ CMap V bm (n' + 1) (fun x y => (cnt (K ++ L.drop (d + 1)) x y : Int)) ∧ Upd (fun j => j = bm) w V ∧ IsB z V g bm mo (.slice (some ⟨gr, 0, none⟩) L.length c) lo) ?_ ?_
        · have hgr : V.drew.grownBy w6 (some bm) := T6.out.grown
          obtain ⟨o, ho, hc⟩ := CMap.obj Q4.out
          have hU := upd_grown (w := V.drew) (Upd.drew Q5.out) hgr (fun r er => Or.inl (by cases er; rfl))
          refine ⟨(hgr.block _ (blk_lt Q1.out) (fun e => ?_)).trans Q1.out, Gone.bm (w := V.drew) Q2.out hgr ho hc, World.ownsRow.kept (w := V.drew) Q3.out hgr (Or.inr (own_offm Q3.out ho hc)), M6.out, hU, ⟨hU.far HI.out.1 (fun e => HBM.out e.symm), HI.out.2⟩⟩
          cases e
          rw [Q1.out] at ho
          cases ho
          exact hc _ _ _ rfl
        clear x0 x1 g2 l1 l2 hent hes M6 T6 Q1 Q2 Q3 Q4 Q5 Q6
        rintro V2 ⟨q1, q2, q3, q4, q5, q6⟩
        have Q1 := Aside0.mk q1
        have Q2 := Aside0.mk q2
        have Q3 := Aside0.mk q3
        have Q4 := Aside0.mk q4
        have Q5 := Aside0.mk q5
        have Q6 := Aside0.mk q6
        have x0 : V2.cell? ⟨wr.heap.size, 0, none⟩ = some (.int .i64 xa) := (blk_cell q1 0).trans rfl
        have x1 : V2.cell? ⟨wr.heap.size, 1, none⟩ = some (.int .i64 xb) := (blk_cell q1 1).trans rfl
        have g2 : V2.cell? ⟨g, 2, none⟩ = some (.map (some bm)) := (blk_cell q6.1 2).trans rfl
        have l1 : ∀ m, (Instr.lookup 37 (.map (some bm)) (.agg #[.int .i64 xa, .int .i64 xb]) false).run Try.prog (V2.drewN m) = .ok (.int .i64 (c1 : Int)) (V2.drewN m) := fun m => by
          have := (q4.drewN m).look (a := xa) (b := xb) (wf64 (by omega) (by omega)) (wf64 (by omega) (by omega))
          rw [hc1] at this
          exact this
        clear q1 q2 q3 q4 q5 q6
        by_cases hc0 : c1 = 0
        · have hz : ((c1 : Int) == 0) = true := by simp [hc0]
          have HC0 := Aside0.mk hc0
          clear hc0
          go_quiet (fail)
          go_upto_region 11 with (fail)
          refine wp_gen (fun V => V.heap[wr.heap.size]? = some (.cells #[.int .i64 xa, .int .i64 xb, .string (strOfNums xs)] 53 (0, 0)) ∧ Gone V w.heap.size (.slice Ap (G.length + 1) cq) (G ++ [(xa, xb, xs)]) ∧ V.ownsRow w.heap.size 53 3 (.slice Al K.length cl) K.length (flat3 K) ∧ CMap V bm (n' + 1) (fun x y => (cnt (K ++ L.drop (d + 1)) x y : Int)) ∧ Upd (fun j => j = bm) w V ∧ IsB z V g bm mo (.slice (some ⟨gr, 0, none⟩) L.length c) lo) ⟨Q1.out, Q2.out, Q3.out, Q4.out, Q5.out.drewN _, Q6.out⟩ ?_
          clear x0 x1 g2 l1 Q1 Q2 Q3 Q4 Q5 Q6
          rintro V3 ⟨q1, q2, q3, q4, q5, q6⟩
          have Q1 := Aside0.mk q1
          have Q2 := Aside0.mk q2
          have Q3 := Aside0.mk q3
          have Q4 := Aside0.mk q4
          have Q5 := Aside0.mk q5
          have Q6 := Aside0.mk q6
          have x0 : V3.cell? ⟨wr.heap.size, 0, none⟩ = some (.int .i64 xa) := (blk_cell q1 0).trans rfl
          have x1 : V3.cell? ⟨wr.heap.size, 1, none⟩ = some (.int .i64 xb) := (blk_cell q1 1).trans rfl
          have g2 : V3.cell? ⟨g, 2, none⟩ = some (.map (some bm)) := (blk_cell q6.1 2).trans rfl
          obtain ⟨w7, hdel, m7, t7⟩ := CMap.drop (w := V3.drew) (a := xa) (b := xb) q4 (wf64 (by omega) (by omega)) (wf64 (by omega) (by omega)) 0
          have hm7 : setM (fun x y => (cnt (K ++ L.drop (d + 1)) x y : Int)) xa xb 0 = fun x y => (cnt (K ++ L.drop (d + 1)) x y : Int) := by
            rw [← SG2.out, setM_twice, HC0.out]; rfl
          rw [hm7] at m7
          unfold kv at hdel
          have M7 := Aside0.mk m7
          have T7 := Aside0.mk t7
          clear q1 q2 q3 q4 q5 q6 m7 t7 hm7
          go_region
          all_goals go_wp2
          go_roundw
          case rel =>
            have hgr : V3.drew.grownBy w7 (some bm) := T7.out.grown
            obtain ⟨o, ho, hc⟩ := CMap.obj Q4.out
            exact ⟨d + 1, n' + 1, Ap, Al, cq, cl, G ++ [(xa, xb, xs)], K, by go_num, by omega, by rw [List.length_append]; rfl, rfl, by omega, by rw [List.length_append]; simp; omega, by omega, ⟨by rw [OG1.out, HG.out]; simp⟩, ⟨by rw [OK1.out, HKK.out]; simp⟩, ⟨by rw [List.length_append]; exact Gone.bm (w := V3.drew) Q2.out hgr ho hc⟩, ⟨World.ownsRow.kept (w := V3.drew) Q3.out hgr (Or.inr (own_offm Q3.out ho hc))⟩, M7, ⟨upd_grown (w := V3.drew) (Upd.drew Q5.out) hgr (fun r er => Or.inl (by cases er; rfl))⟩⟩
          case measure => simp [intOf]; omega
        · have hz : ((c1 : Int) == 0) = false := by simp [hc0]
          go_quiet (fail)
          go_wp2
          go_roundw
          case rel =>
            exact ⟨d + 1, n' + 1, Ap, Al, cq, cl, G ++ [(xa, xb, xs)], K, by go_num, by omega, by rw [List.length_append]; rfl, rfl, by omega, by rw [List.length_append]; simp; omega, by omega, ⟨by rw [OG1.out, HG.out]; simp⟩, ⟨by rw [OK1.out, HKK.out]; simp⟩, ⟨by rw [List.length_append]; exact Q2.out⟩, ⟨Q3.out⟩, ⟨Q4.out⟩, ⟨Q5.out.drewN _⟩⟩
          case measure => simp [intOf]; omega
    · have hdb : decide ((d : Int) < (L.length : Int)) = false := decide_eq_false (by omega)
      obtain rfl : d = L.length := by omega
      have hB : IsB z wr g bm mo (.slice A L.length c) lo := ⟨P4.out.far HI.out.1 (fun e => HBM.out e.symm), HI.out.2⟩
      have g1 : wr.cell? ⟨g, 1, none⟩ = some (.slice A L.length c) := (blk_cell hB.1 1).trans rfl
      have gf1 : wr.frozen? ⟨g, 1, none⟩ = false := blk_frozen hB.1 1
      have hkl := HKK.out
      have hgl2 := HG.out
      have hm5 := P3.out
      rw [List.take_length] at hkl hgl2
      rw [List.drop_length, List.append_nil] at hm5
      have HKL := Aside0.mk hkl
      have HGL := Aside0.mk hgl2
      have HB := Aside0.mk hB
      have HM5 := Aside0.mk hm5
      clear hB hkl hgl2 hm5 HKK HG
      go_wp2
      go_ret
      rw [← HKL.out, ← HGL.out]
      have hgr := grownBy_setC wr ⟨g, 1, none⟩ (.slice Al K.length cl)
      refine ⟨Ag, Al, cg, cl, n', rfl, ?_, HB.out.set_1 _, Go.Joins.ownsRow_le (P2.out.kept hgr (Or.inr (own_off P2.out HB.out.1 (by decide)))) ?_, HM5.out.kept hgr ?_, by omega, ?_⟩
      · refine P1.out.kept hgr (fun r er cs t fr ht hh => ?_)
        cases er
        rw [HB.out.1] at hh
        cases hh
        rcases ht with e | e <;> cases e
      · have := HI.out.2; omega
      · intro e
        exact HBM.out (by cases e; rfl)
      · exact Upd.setCell (S := fun j => j = g ∨ j = bm) (p := ⟨g, 1, none⟩) (P4.out.mono (fun k _ h => Or.inr h)) (Or.inl (Or.inl rfl)) _
set_option maxRecDepth 100000 in
set_option maxHeartbeats 2000000 in
theorem out26_ok (g bm : Nat) (mo : Int) (A : Option Addr) (c : Nat) (lo : Int) (n : Nat) (L : List It) (cp : Nat) (ccs : Array Value) (ct : TypeId) (k : Nat → It → Bool) (z w : World) (hI : IsB z w g bm mo (.slice A L.length c) lo) (hr : w.ownsRow z.heap.size 53 3 (.slice A L.length c) L.length (flat3 L)) (hM : CMap w bm n (fun x y => (cnt L x y : Int))) (hL : ∀ x ∈ L, ItOk x) (hm : L.length ≤ 64) (hn : n + 64 < maxLen) (hzb : z.heap.size ≤ bm) (hcp : w.heap[cp]? = some (.cells ccs ct (0, 0)))
    (hk : ∀ (i : Nat) (x : It) (W : World), W.heap[cp]? = some (.cells ccs ct (0, 0)) → Calls Try.prog 26 #[.int .i64 i, iv x, .pointer (some ⟨cp, 0, none⟩)] W fun en w' => en = .returned (.bool (k i x)) ∧ Below W.heap.size W w') :
    Calls Try.prog 24 #[.pointer (some ⟨g, 0, none⟩), .func (.func 26) #[] #[.pointer (some ⟨cp, 0, none⟩)]] w fun en w' => ∃ (Ag Al : Option Addr) (cg cl n' : Nat), en = .returned (.slice Ag (outG k L).length cg) ∧ Gone w' w.heap.size (.slice Ag (outG k L).length cg) (outG k L) ∧ IsB z w' g bm mo (.slice Al (outK k L).length cl) lo ∧ w'.ownsRow z.heap.size 53 3 (.slice Al (outK k L).length cl) (outK k L).length (flat3 (outK k L)) ∧ CMap w' bm n' (fun x y => (cnt (outK k L) x y : Int)) ∧ n' ≤ n + 64 ∧ Upd (fun j => j = g ∨ j = bm) w w' := by
  obtain ⟨i53, hi53, hz53, hs53, hb53⟩ := info_parts info53
  obtain ⟨i27, hi27, hz27, hs27, hb27⟩ := info_parts info27
  have HI := Aside0.mk hI
  have HR := Aside0.mk hr
  have HM := Aside0.mk hM
  have HL := Aside0.mk hL
  have HCP := Aside0.mk hcp
  have HK := Aside0.mk hk
  have HZS := Aside0.mk (And.intro hi53 (And.intro hz53 (And.intro hs53 hb53)))
  have HZT := Aside0.mk (And.intro hi27 (And.intro hz27 (And.intro hs27 hb27)))
  have hlen := hm
  have hn0 := hn
  unfold maxLen at hn0
  have c1 : w.cell? ⟨g, 1, none⟩ = some (.slice A L.length c) := (blk_cell hI.1 1).trans rfl
  have hbmg : bm ≠ g := by
    obtain ⟨o, h1, h2⟩ := CMap.obj hM
    intro e
    subst e
    rw [hI.1] at h1
    cases h1
    exact h2 _ _ _ rfl
  have hcpb : cp ≠ bm := by
    obtain ⟨o, h1, h2⟩ := CMap.obj hM
    intro e
    subst e
    rw [hcp] at h1
    cases h1
    exact h2 _ _ _ rfl
  have HBM := Aside0.mk hbmg
  have HCB := Aside0.mk hcpb
  have hgl := blk_lt hI.1
  have hcl := blk_lt hcp
  clear hI hr hM hL hcp hk hi53 hz53 hs53 hb53 hi27 hz27 hs27 hb27 hbmg hcpb
  go_enter Try.func24, Try.ntmps24
  go_wp2
  go_loopw [5, 6, 14] (fun vg vl vi wr => ∃ (d n' : Nat) (Ag Al : Option Addr) (cg cl : Nat) (G K : List It), vi = .int .i64 d ∧ d ≤ L.length ∧ vg = .slice Ag G.length cg ∧ vl = .slice Al K.length cl ∧ n' ≤ n + d ∧ G.length ≤ d ∧ K.length ≤ d ∧ Aside0 (G = outG k (L.take d)) ∧ Aside0 (K = outK k (L.take d)) ∧ Aside0 (Gone wr w.heap.size (.slice Ag G.length cg) G) ∧ Aside0 (wr.ownsRow w.heap.size 53 3 (.slice Al K.length cl) K.length (flat3 K)) ∧ Aside0 (CMap wr bm n' (fun x y => (cnt (K ++ L.drop d) x y : Int))) ∧ Aside0 (Upd (fun j => j = bm) w wr)) (fun _ _ vi _ => L.length - (intOf vi).toNat)
  case atStart => exact ⟨0, n, none, none, 0, 0, [], [], rfl, Nat.zero_le _, rfl, rfl, Nat.le_refl _, Nat.le_refl _, Nat.le_refl _, ⟨rfl⟩, ⟨rfl⟩, ⟨Gone.nil _ _⟩, ⟨World.ownsRow_nil _ _ _ _⟩, HM, ⟨Upd.refl _ _⟩⟩
  case round =>
    obtain ⟨d, n', Ag, Al, cg, cl, G, K, rfl, hd, rfl, rfl, hnd, hgd, hkd, HG, HKK, P1, P2, P3, P4⟩ := hrel
    by_cases hdl : d < L.length
    · have hdb : decide ((d : Int) < (L.length : Int)) = true := decide_eq_true (by omega)
      obtain ⟨gr, e, hbg, h0, h1, h2⟩ := row_it HR.out hdl
      subst e
      have hne : gr ≠ bm := by
        obtain ⟨o, ho, hc⟩ := CMap.obj HM.out
        exact fun e => own_offm HR.out ho hc (by rw [← e]; rfl)
      have hx0 := List.getElem_mem hdl
      have SP := Aside0.mk (step_pos K L d hdl)
      have SG := Aside0.mk (step_gone K L d hdl)
      have SK := Aside0.mk (step_keep K L d hdl)
      have OK1 := Aside0.mk (outK_succ k L d hdl)
      have OG1 := Aside0.mk (outG_succ k L d hdl)
      have hok := HL.out _ hx0
      obtain ⟨x, hx⟩ : ∃ x, L[d] = x := ⟨_, rfl⟩
      rw [hx] at h0 h1 h2 SP SG SK OK1 OG1 hok
      clear hx hx0
      obtain ⟨xa, xb, xs⟩ := x
      dsimp only at h0 h1 h2 SP SG
      obtain ⟨o1, o2, o3, o4, o5, o6⟩ := hok
      dsimp only at o1 o2 o3 o4 o5 o6
      have O6 := Aside0.mk o6
      clear o6
      have r0 := P4.out.cellF h0 hne
      have r1 := P4.out.cellF h1 hne
      have r2 := P4.out.cellF h2 hne
      clear h0 h1 h2
      have wsz := P4.out.size
      go_upto_region 6 with (fail)
      refine wp_gen (fun W => W.heap[wr.heap.size]? = some (.cells #[.int .i64 xa, .int .i64 xb, .string (strOfNums xs)] 53 (0, 0)) ∧ Gone W w.heap.size (.slice Ag G.length cg) G ∧ W.ownsRow w.heap.size 53 3 (.slice Al K.length cl) K.length (flat3 K) ∧ CMap W bm n' (fun x y => (cnt (K ++ L.drop d) x y : Int)) ∧ Upd (fun j => j = bm) w W) ⟨blk_new _ _, P1.out.below (below_alloc (Below.refl _ _) _), P2.out.kept (World.grownBy_alloc _ _ none) (by cases (Value.slice Al K.length cl).ownBlock <;> simp), P3.out.alloc _, P4.out.alloc _⟩ ?_
      clear r0 r1 r2 P1 P2 P3 P4
      rintro W ⟨q1, q2, q3, q4, q5⟩
      have hcW : W.heap[cp]? = some (.cells ccs ct (0, 0)) := q5.far HCP.out HCB.out
      have hkk := HK.out d (xa, xb, xs) W hcW
      unfold iv at hkk
      dsimp only at hkk
      obtain ⟨kb, hkb⟩ : ∃ kb, k d (xa, xb, xs) = kb := ⟨_, rfl⟩
      rw [hkb] at hkk OK1 OG1
      have Q1 := Aside0.mk q1
      have Q2 := Aside0.mk q2
      have Q3 := Aside0.mk q3
      have Q4 := Aside0.mk q4
      have Q5 := Aside0.mk q5
      have HKB := Aside0.mk hkk
      have x0 : W.cell? ⟨wr.heap.size, 0, none⟩ = some (.int .i64 xa) := (blk_cell q1 0).trans rfl
      have x1 : W.cell? ⟨wr.heap.size, 1, none⟩ = some (.int .i64 xb) := (blk_cell q1 1).trans rfl
      have x2 : W.cell? ⟨wr.heap.size, 2, none⟩ = some (.string (strOfNums xs)) := (blk_cell q1 2).trans rfl
      have hwW := q5.size
      clear q1 q2 q3 q4 q5 hcW hkk hkb
      cases kb with
      | true =>
        go_upto_region 7 with (first | (go_at_call 26; go_loud (refine (HKB.out).mono ?_; rintro en w2 ⟨rfl, hb2⟩; have B2 := Aside0.mk hb2; have y0 := cell_bel hb2 x0; have y1 := cell_bel hb2 x1; have y2 := cell_bel hb2 x2; clear hb2 x0 x1 x2)))
        have hown := Q3.out.kept (row := none) (grown_below B2.out) (by cases (Value.slice Al K.length cl).ownBlock <;> simp)
        obtain ⟨hi53, hz53, hs53, hb53⟩ := HZS.out
        have w2W := B2.out.size
        go_wp2_with (first | (at_builtin; go_loud (refine wpList_append_own _ rfl _ _ 36 rfl w.heap.size 53 i53 _ 3 32 Try.underlying36 hi53 hz53 hs53 hb53 rfl (by decide) _ _ _ rfl (hown.alloc _) ⟨w2.heap.size, 0, none⟩ 1 1 #[.int .i64 xa, .int .i64 xb, .string (strOfNums xs)].toList rfl rfl (cells_new _ _ _) (by simp [Value.oneCell']) (by unfold maxLen; omega) (by omega) (by simp; omega) ?_; intro v' w9 hown' hgrow _; obtain ⟨Ap, cq, rfl⟩ := own_slice2 hown'; have O9 := Aside0.mk hown'; have G9 := Aside0.mk hgrow; clear hown' hgrow)))
        go_roundw
        case rel =>
          have hall := (World.grownBy_alloc w2 (.cells #[.int .i64 xa, .int .i64 xb, .string (strOfNums xs)] 53) (Value.slice Al K.length cl).ownBlock).trans G9.out
          have hC2 := CMap.below Q4.out B2.out
          refine ⟨d + 1, n', Ag, Ap, cg, cq, G, K ++ [(xa, xb, xs)], by go_num, by omega, rfl, by rw [List.length_append]; rfl, by omega, by omega, by rw [List.length_append]; simp; omega, ⟨?_⟩, ⟨?_⟩, ⟨?_⟩, ⟨?_⟩, ⟨?_⟩, ⟨?_⟩⟩
          · rw [OG1.out, HG.out]; simp
          · rw [OK1.out, HKK.out]; simp
          · exact (Q2.out.below B2.out).row hown (by decide) hall
          · rw [List.length_append, flat3_snoc]; exact O9.out
          · rw [← SK.out]
            obtain ⟨o, ho, hc⟩ := CMap.obj hC2
            exact hC2.kept hall (own_offm hown ho hc).symm
          · exact upd_grown (upd_below Q5.out B2.out) hall (fun r er => Or.inr (own_ge hown er).1)
        case measure => simp [intOf]; omega
      | false =>
        go_upto_region 8 with (first | (go_at_call 26; go_loud (refine (HKB.out).mono ?_; rintro en w2 ⟨rfl, hb2⟩; have B2 := Aside0.mk hb2; have y0 := cell_bel hb2 x0; have y1 := cell_bel hb2 x1; have y2 := cell_bel hb2 x2; clear hb2 x0 x1 x2)))
        obtain ⟨cb, W3, hcv, b3, hs3, hb3⟩ := bytes_new w2 xs O6.out
        obtain ⟨vs, hown, hbs⟩ := (Q2.out.below B2.out).below b3
        obtain ⟨hi27, hz27, hs27, hb27⟩ := HZT.out
        have HB3 := Aside0.mk hb3
        have HBS := Aside0.mk hbs
        have B3 := Aside0.mk b3
        have w2W := B2.out.size
        have w3W := b3.size
        clear hb3 hbs b3 hs3
        go_upto_region 9 with (first | (at_builtin; go_loud (refine wpList_append_own _ rfl _ _ 28 rfl w.heap.size 27 i27 _ 1 24 Try.underlying28 hi27 hz27 hs27 hb27 rfl (by decide) _ _ _ rfl (hown.alloc _) ⟨W3.heap.size, 0, none⟩ 1 1 [.slice (some ⟨w2.heap.size, 0, none⟩) xs.length cb] rfl rfl (cell_one_new _ _ _) (by simp [Value.oneCell']) (by unfold maxLen; omega) (by omega) (by simp; omega) ?_; intro v' w9 hown' hgrow _; obtain ⟨Ap, cq, rfl⟩ := own_slice2 hown'; have O9 := Aside0.mk hown'; have G9 := Aside0.mk hgrow; clear hown' hgrow)))
        have hsp := SP.out
        have hsg := SG.out
        obtain ⟨c1, hc1⟩ : ∃ c1, cnt (K ++ L.drop (d + 1)) xa xb = c1 := ⟨_, rfl⟩
        have hc1b : c1 ≤ 128 := by have := cnt_le (K ++ L.drop (d + 1)) xa xb; rw [List.length_append, List.length_drop] at this; omega
        rw [hc1] at hsp hsg
        have SG2 := Aside0.mk hsg
        refine wp_gen (fun V => V.heap[wr.heap.size]? = some (.cells #[.int .i64 xa, .int .i64 xb, .string (strOfNums xs)] 53 (0, 0)) ∧ Gone V w.heap.size (.slice Ap (G.length + 1) cq) (G ++ [(xa, xb, xs)]) ∧ V.ownsRow w.heap.size 53 3 (.slice Al K.length cl) K.length (flat3 K) ∧ CMap V bm n' (fun x y => (cnt (K ++ L.drop d) x y : Int)) ∧ Upd (fun j => j = bm) w V ∧ IsB z V g bm mo (.slice (some ⟨gr, 0, none⟩) L.length c) lo) ?_ ?_
        · have hall := (World.grownBy_alloc W3 (.cells #[.slice (some ⟨w2.heap.size, 0, none⟩) xs.length cb] 27) (Value.slice Ag G.length cg).ownBlock).trans G9.out
          have hC2 := (CMap.below Q4.out B2.out).below B3.out
          have hO2 := (Q3.out.kept (row := none) (grown_below B2.out) (by cases (Value.slice Al K.length cl).ownBlock <;> simp)).kept (row := none) (grown_below B3.out) (by cases (Value.slice Al K.length cl).ownBlock <;> simp)
          have hX := blk_below (blk_below Q1.out B2.out) B3.out
          have hU := upd_grown (upd_below (upd_below Q5.out B2.out) B3.out) hall (fun r er => Or.inr (own_ge hown er).1)
          refine ⟨(hall.block _ (blk_lt hX) (own_off hown hX (by decide)).symm).trans hX, Gone.snoc hown HBS.out ?_ O9.out G9.out, hO2.kept hall (own_apart hO2 hown (by decide)), ?_, hU, ⟨hU.far HI.out.1 (fun e => HBM.out e.symm), HI.out.2⟩⟩
          · obtain ⟨k1, c2, cs, fr, e1, e2, e3, e4⟩ := HB3.out
            exact ⟨k1, c2, cs, fr, e1, by omega, e3, e4⟩
          · obtain ⟨o, ho, hc⟩ := CMap.obj hC2
            exact hC2.kept hall (own_offm hown ho hc).symm
        clear hown y0 y1 y2 HB3 HBS O9 G9 hcv B2 B3 Q1 Q2 Q3 Q4 Q5 HKB hsg
        rintro V ⟨q1, q2, q3, q4, q5, q6⟩
        have Q1 := Aside0.mk q1
        have Q2 := Aside0.mk q2
        have Q3 := Aside0.mk q3
        have Q5 := Aside0.mk q5
        have Q6 := Aside0.mk q6
        have x0 : V.cell? ⟨wr.heap.size, 0, none⟩ = some (.int .i64 xa) := (blk_cell q1 0).trans rfl
        have x1 : V.cell? ⟨wr.heap.size, 1, none⟩ = some (.int .i64 xb) := (blk_cell q1 1).trans rfl
        have g2 : V.cell? ⟨g, 2, none⟩ = some (.map (some bm)) := (blk_cell q6.1 2).trans rfl
        have l1 : (Instr.lookup 37 (.map (some bm)) (.agg #[.int .i64 xa, .int .i64 xb]) false).run Try.prog V.drew = .ok (.int .i64 ((c1 : Int) + 1)) V.drew := by
          have := CMap.look (w := V.drew) (a := xa) (b := xb) q4 (wf64 (by omega) (by omega)) (wf64 (by omega) (by omega))
          rw [hsp] at this
          exact this
        obtain ⟨v0, st, w1, hent, hmid, hst⟩ := CMap.entry2 (w := V.drew) (a := xa) (b := xb) q4 (by unfold maxLen; omega) (wf64 (by omega) (by omega)) (wf64 (by omega) (by omega))
        obtain ⟨w6, hes, m6, t6⟩ := hst (c1 : Int) (wf64 (by omega) (by omega))
        have l2 : (Instr.lookup 37 (.map (some bm)) (.agg #[.int .i64 xa, .int .i64 xb]) false).run Try.prog w1 = .ok (.int .i64 ((c1 : Int) + 1)) w1 := by
          rw [hsp] at hmid
          exact hmid
        unfold kv at hent
        replace hes : (Instr.entryStore 37 (.map (some bm)) (.int .i64 (st : Int)) (.int .i64 (c1 : Int))).run Try.prog w1 = .ok () w6 := hes
        rw [SG2.out] at m6
        have M6 := Aside0.mk m6
        have T6 := Aside0.mk t6
        have Q4 := Aside0.mk q4
        clear q1 q2 q3 q4 q5 q6 hst m6 t6 hsp hmid
        go_region
        all_goals go_upto_region 10 with (fail)
        refine wp_gen (fun V => V.heap[wr.heap.size]? = some (.cells #[.int .i64 xa, .int .i64 xb, .string (strOfNums xs)] 53 (0, 0)) ∧ Gone V w.heap.size (.slice Ap (G.length + 1) cq) (G ++ [(xa, xb, xs)]) ∧ V.ownsRow w.heap.size 53 3 (.slice Al K.length cl) K.length (flat3 K) ∧ CMap V bm (n' + 1) (fun x y => (cnt (K ++ L.drop (d + 1)) x y : Int)) ∧ Upd (fun j => j = bm) w V ∧ IsB z V g bm mo (.slice (some ⟨gr, 0, none⟩) L.length c) lo) ?_ ?_
        · have hgr : V.drew.grownBy w6 (some bm) := T6.out.grown
          obtain ⟨o, ho, hc⟩ := CMap.obj Q4.out
          have hU := upd_grown (w := V.drew) (Upd.drew Q5.out) hgr (fun r er => Or.inl (by cases er; rfl))
          refine ⟨(hgr.block _ (blk_lt Q1.out) (fun e => ?_)).trans Q1.out, Gone.bm (w := V.drew) Q2.out hgr ho hc, World.ownsRow.kept (w := V.drew) Q3.out hgr (Or.inr (own_offm Q3.out ho hc)), M6.out, hU, ⟨hU.far HI.out.1 (fun e => HBM.out e.symm), HI.out.2⟩⟩
          cases e
          rw [Q1.out] at ho
          cases ho
          exact hc _ _ _ rfl
        clear x0 x1 g2 l1 l2 hent hes M6 T6 Q1 Q2 Q3 Q4 Q5 Q6
        rintro V2 ⟨q1, q2, q3, q4, q5, q6⟩
        have Q1 := Aside0.mk q1
        have Q2 := Aside0.mk q2
        have Q3 := Aside0.mk q3
        have Q4 := Aside0.mk q4
        have Q5 := Aside0.mk q5
        have Q6 := Aside0.mk q6
        have x0 : V2.cell? ⟨wr.heap.size, 0, none⟩ = some (.int .i64 xa) := (blk_cell q1 0).trans rfl
        have x1 : V2.cell? ⟨wr.heap.size, 1, none⟩ = some (.int .i64 xb) := (blk_cell q1 1).trans rfl
        have g2 : V2.cell? ⟨g, 2, none⟩ = some (.map (some bm)) := (blk_cell q6.1 2).trans rfl
        have l1 : ∀ m, (Instr.lookup 37 (.map (some bm)) (.agg #[.int .i64 xa, .int .i64 xb]) false).run Try.prog (V2.drewN m) = .ok (.int .i64 (c1 : Int)) (V2.drewN m) := fun m => by
          have := (q4.drewN m).look (a := xa) (b := xb) (wf64 (by omega) (by omega)) (wf64 (by omega) (by omega))
          rw [hc1] at this
          exact this
        clear q1 q2 q3 q4 q5 q6
        by_cases hc0 : c1 = 0
        · have hz : ((c1 : Int) == 0) = true := by simp [hc0]
          have HC0 := Aside0.mk hc0
          clear hc0
          go_quiet (fail)
          go_upto_region 11 with (fail)
          refine wp_gen (fun V => V.heap[wr.heap.size]? = some (.cells #[.int .i64 xa, .int .i64 xb, .string (strOfNums xs)] 53 (0, 0)) ∧ Gone V w.heap.size (.slice Ap (G.length + 1) cq) (G ++ [(xa, xb, xs)]) ∧ V.ownsRow w.heap.size 53 3 (.slice Al K.length cl) K.length (flat3 K) ∧ CMap V bm (n' + 1) (fun x y => (cnt (K ++ L.drop (d + 1)) x y : Int)) ∧ Upd (fun j => j = bm) w V ∧ IsB z V g bm mo (.slice (some ⟨gr, 0, none⟩) L.length c) lo) ⟨Q1.out, Q2.out, Q3.out, Q4.out, Q5.out.drewN _, Q6.out⟩ ?_
          clear x0 x1 g2 l1 Q1 Q2 Q3 Q4 Q5 Q6
          rintro V3 ⟨q1, q2, q3, q4, q5, q6⟩
          have Q1 := Aside0.mk q1
          have Q2 := Aside0.mk q2
          have Q3 := Aside0.mk q3
          have Q4 := Aside0.mk q4
          have Q5 := Aside0.mk q5
          have Q6 := Aside0.mk q6
          have x0 : V3.cell? ⟨wr.heap.size, 0, none⟩ = some (.int .i64 xa) := (blk_cell q1 0).trans rfl
          have x1 : V3.cell? ⟨wr.heap.size, 1, none⟩ = some (.int .i64 xb) := (blk_cell q1 1).trans rfl
          have g2 : V3.cell? ⟨g, 2, none⟩ = some (.map (some bm)) := (blk_cell q6.1 2).trans rfl
          obtain ⟨w7, hdel, m7, t7⟩ := CMap.drop (w := V3.drew) (a := xa) (b := xb) q4 (wf64 (by omega) (by omega)) (wf64 (by omega) (by omega)) 0
          have hm7 : setM (fun x y => (cnt (K ++ L.drop (d + 1)) x y : Int)) xa xb 0 = fun x y => (cnt (K ++ L.drop (d + 1)) x y : Int) := by
            rw [← SG2.out, setM_twice, HC0.out]; rfl
          rw [hm7] at m7
          unfold kv at hdel
          have M7 := Aside0.mk m7
          have T7 := Aside0.mk t7
          clear q1 q2 q3 q4 q5 q6 m7 t7 hm7
          go_region
          all_goals go_wp2
          go_roundw
          case rel =>
            have hgr : V3.drew.grownBy w7 (some bm) := T7.out.grown
            obtain ⟨o, ho, hc⟩ := CMap.obj Q4.out
            exact ⟨d + 1, n' + 1, Ap, Al, cq, cl, G ++ [(xa, xb, xs)], K, by go_num, by omega, by rw [List.length_append]; rfl, rfl, by omega, by rw [List.length_append]; simp; omega, by omega, ⟨by rw [OG1.out, HG.out]; simp⟩, ⟨by rw [OK1.out, HKK.out]; simp⟩, ⟨by rw [List.length_append]; exact Gone.bm (w := V3.drew) Q2.out hgr ho hc⟩, ⟨World.ownsRow.kept (w := V3.drew) Q3.out hgr (Or.inr (own_offm Q3.out ho hc))⟩, M7, ⟨upd_grown (w := V3.drew) (Upd.drew Q5.out) hgr (fun r er => Or.inl (by cases er; rfl))⟩⟩
          case measure => simp [intOf]; omega
        · have hz : ((c1 : Int) == 0) = false := by simp [hc0]
          go_quiet (fail)
          go_wp2
          go_roundw
          case rel =>
            exact ⟨d + 1, n' + 1, Ap, Al, cq, cl, G ++ [(xa, xb, xs)], K, by go_num, by omega, by rw [List.length_append]; rfl, rfl, by omega, by rw [List.length_append]; simp; omega, by omega, ⟨by rw [OG1.out, HG.out]; simp⟩, ⟨by rw [OK1.out, HKK.out]; simp⟩, ⟨by rw [List.length_append]; exact Q2.out⟩, ⟨Q3.out⟩, ⟨Q4.out⟩, ⟨Q5.out.drewN _⟩⟩
          case measure => simp [intOf]; omega
    · have hdb : decide ((d : Int) < (L.length : Int)) = false := decide_eq_false (by omega)
      obtain rfl : d = L.length := by omega
      have hB : IsB z wr g bm mo (.slice A L.length c) lo := ⟨P4.out.far HI.out.1 (fun e => HBM.out e.symm), HI.out.2⟩
      have g1 : wr.cell? ⟨g, 1, none⟩ = some (.slice A L.length c) := (blk_cell hB.1 1).trans rfl
      have gf1 : wr.frozen? ⟨g, 1, none⟩ = false := blk_frozen hB.1 1
      have hkl := HKK.out
      have hgl2 := HG.out
      have hm5 := P3.out
      rw [List.take_length] at hkl hgl2
      rw [List.drop_length, List.append_nil] at hm5
      have HKL := Aside0.mk hkl
      have HGL := Aside0.mk hgl2
      have HB := Aside0.mk hB
      have HM5 := Aside0.mk hm5
      clear hB hkl hgl2 hm5 HKK HG
      go_wp2
      go_ret
      rw [← HKL.out, ← HGL.out]
      have hgr := grownBy_setC wr ⟨g, 1, none⟩ (.slice Al K.length cl)
      refine ⟨Ag, Al, cg, cl, n', rfl, ?_, HB.out.set_1 _, Go.Joins.ownsRow_le (P2.out.kept hgr (Or.inr (own_off P2.out HB.out.1 (by decide)))) ?_, HM5.out.kept hgr ?_, by omega, ?_⟩
      · refine P1.out.kept hgr (fun r er cs t fr ht hh => ?_)
        cases er
        rw [HB.out.1] at hh
        cases hh
        rcases ht with e | e <;> cases e
      · have := HI.out.2; omega
      · intro e
        exact HBM.out (by cases e; rfl)
      · exact Upd.setCell (S := fun j => j = g ∨ j = bm) (p := ⟨g, 1, none⟩) (P4.out.mono (fun k _ h => Or.inr h)) (Or.inl (Or.inl rfl)) _
set_option maxRecDepth 100000 in
set_option maxHeartbeats 2000000 in
theorem out27_ok (g bm : Nat) (mo : Int) (A : Option Addr) (c : Nat) (lo : Int) (n : Nat) (L : List It) (cp : Nat) (ccs : Array Value) (ct : TypeId) (k : Nat → It → Bool) (z w : World) (hI : IsB z w g bm mo (.slice A L.length c) lo) (hr : w.ownsRow z.heap.size 53 3 (.slice A L.length c) L.length (flat3 L)) (hM : CMap w bm n (fun x y => (cnt L x y : Int))) (hL : ∀ x ∈ L, ItOk x) (hm : L.length ≤ 64) (hn : n + 64 < maxLen) (hzb : z.heap.size ≤ bm) (hcp : w.heap[cp]? = some (.cells ccs ct (0, 0)))
    (hk : ∀ (i : Nat) (x : It) (W : World), W.heap[cp]? = some (.cells ccs ct (0, 0)) → Calls Try.prog 27 #[.int .i64 i, iv x, .pointer (some ⟨cp, 0, none⟩)] W fun en w' => en = .returned (.bool (k i x)) ∧ Below W.heap.size W w') :
    Calls Try.prog 24 #[.pointer (some ⟨g, 0, none⟩), .func (.func 27) #[] #[.pointer (some ⟨cp, 0, none⟩)]] w fun en w' => ∃ (Ag Al : Option Addr) (cg cl n' : Nat), en = .returned (.slice Ag (outG k L).length cg) ∧ Gone w' w.heap.size (.slice Ag (outG k L).length cg) (outG k L) ∧ IsB z w' g bm mo (.slice Al (outK k L).length cl) lo ∧ w'.ownsRow z.heap.size 53 3 (.slice Al (outK k L).length cl) (outK k L).length (flat3 (outK k L)) ∧ CMap w' bm n' (fun x y => (cnt (outK k L) x y : Int)) ∧ n' ≤ n + 64 ∧ Upd (fun j => j = g ∨ j = bm) w w' := by
  obtain ⟨i53, hi53, hz53, hs53, hb53⟩ := info_parts info53
  obtain ⟨i27, hi27, hz27, hs27, hb27⟩ := info_parts info27
  have HI := Aside0.mk hI
  have HR := Aside0.mk hr
  have HM := Aside0.mk hM
  have HL := Aside0.mk hL
  have HCP := Aside0.mk hcp
  have HK := Aside0.mk hk
  have HZS := Aside0.mk (And.intro hi53 (And.intro hz53 (And.intro hs53 hb53)))
  have HZT := Aside0.mk (And.intro hi27 (And.intro hz27 (And.intro hs27 hb27)))
  have hlen := hm
  have hn0 := hn
  unfold maxLen at hn0
  have c1 : w.cell? ⟨g, 1, none⟩ = some (.slice A L.length c) := (blk_cell hI.1 1).trans rfl
  have hbmg : bm ≠ g := by
    obtain ⟨o, h1, h2⟩ := CMap.obj hM
    intro e
    subst e
    rw [hI.1] at h1
    cases h1
    exact h2 _ _ _ rfl
  have hcpb : cp ≠ bm := by
    obtain ⟨o, h1, h2⟩ := CMap.obj hM
    intro e
    subst e
    rw [hcp] at h1
    cases h1
    exact h2 _ _ _ rfl
  have HBM := Aside0.mk hbmg
  have HCB := Aside0.mk hcpb
  have hgl := blk_lt hI.1
  have hcl := blk_lt hcp
  clear hI hr hM hL hcp hk hi53 hz53 hs53 hb53 hi27 hz27 hs27 hb27 hbmg hcpb
  go_enter Try.func24, Try.ntmps24
  go_wp2
  go_loopw [5, 6, 14] (fun vg vl vi wr => ∃ (d n' : Nat) (Ag Al : Option Addr) (cg cl : Nat) (G K : List It), vi = .int .i64 d ∧ d ≤ L.length ∧ vg = .slice Ag G.length cg ∧ vl = .slice Al K.length cl ∧ n' ≤ n + d ∧ G.length ≤ d ∧ K.length ≤ d ∧ Aside0 (G = outG k (L.take d)) ∧ Aside0 (K = outK k (L.take d)) ∧ Aside0 (Gone wr w.heap.size (.slice Ag G.length cg) G) ∧ Aside0 (wr.ownsRow w.heap.size 53 3 (.slice Al K.length cl) K.length (flat3 K)) ∧ Aside0 (CMap wr bm n' (fun x y => (cnt (K ++ L.drop d) x y : Int))) ∧ Aside0 (Upd (fun j => j = bm) w wr)) (fun _ _ vi _ => L.length - (intOf vi).toNat)
  case atStart => exact ⟨0, n, none, none, 0, 0, [], [], rfl, Nat.zero_le _, rfl, rfl, Nat.le_refl _, Nat.le_refl _, Nat.le_refl _, ⟨rfl⟩, ⟨rfl⟩, ⟨Gone.nil _ _⟩, ⟨World.ownsRow_nil _ _ _ _⟩, HM, ⟨Upd.refl _ _⟩⟩
  case round =>
    obtain ⟨d, n', Ag, Al, cg, cl, G, K, rfl, hd, rfl, rfl, hnd, hgd, hkd, HG, HKK, P1, P2, P3, P4⟩ := hrel
    by_cases hdl : d < L.length
    · have hdb : decide ((d : Int) < (L.length : Int)) = true := decide_eq_true (by omega)
      obtain ⟨gr, e, hbg, h0, h1, h2⟩ := row_it HR.out hdl
      subst e
      have hne : gr ≠ bm := by
        obtain ⟨o, ho, hc⟩ := CMap.obj HM.out
        exact fun e => own_offm HR.out ho hc (by rw [← e]; rfl)
      have hx0 := List.getElem_mem hdl
      have SP := Aside0.mk (step_pos K L d hdl)
      have SG := Aside0.mk (step_gone K L d hdl)
      have SK := Aside0.mk (step_keep K L d hdl)
      have OK1 := Aside0.mk (outK_succ k L d hdl)
      have OG1 := Aside0.mk (outG_succ k L d hdl)
      have hok := HL.out _ hx0
      obtain ⟨x, hx⟩ : ∃ x, L[d] = x := ⟨_, rfl⟩
      rw [hx] at h0 h1 h2 SP SG SK OK1 OG1 hok
      clear hx hx0
      obtain ⟨xa, xb, xs⟩ := x
      dsimp only at h0 h1 h2 SP SG
      obtain ⟨o1, o2, o3, o4, o5, o6⟩ := hok
      dsimp only at o1 o2 o3 o4 o5 o6
      have O6 := Aside0.mk o6
      clear o6
      have r0 := P4.out.cellF h0 hne
      have r1 := P4.out.cellF h1 hne
      have r2 := P4.out.cellF h2 hne
      clear h0 h1 h2
      have wsz := P4.out.size
      go_upto_region 6 with (fail)
      refine wp_gen (fun W => W.heap[wr.heap.size]? = some (.cells #[.int .i64 xa, .int .i64 xb, .string (strOfNums xs)] 53 (0, 0)) ∧ Gone W w.heap.size (.slice Ag G.length cg) G ∧ W.ownsRow w.heap.size 53 3 (.slice Al K.length cl) K.length (flat3 K) ∧ CMap W bm n' (fun x y => (cnt (K ++ L.drop d) x y : Int)) ∧ Upd (fun j => j = bm) w W) ⟨blk_new _ _, P1.out.below (below_alloc (Below.refl _ _) _), P2.out.kept (World.grownBy_alloc _ _ none) (by cases (Value.slice Al K.length cl).ownBlock <;> simp), P3.out.alloc _, P4.out.alloc _⟩ ?_
      clear r0 r1 r2 P1 P2 P3 P4
      rintro W ⟨q1, q2, q3, q4, q5⟩
      have hcW : W.heap[cp]? = some (.cells ccs ct (0, 0)) := q5.far HCP.out HCB.out
      have hkk := HK.out d (xa, xb, xs) W hcW
      unfold iv at hkk
      dsimp only at hkk
      obtain ⟨kb, hkb⟩ : ∃ kb, k d (xa, xb, xs) = kb := ⟨_, rfl⟩
      rw [hkb] at hkk OK1 OG1
      have Q1 := Aside0.mk q1
      have Q2 := Aside0.mk q2
      have Q3 := Aside0.mk q3
      have Q4 := Aside0.mk q4
      have Q5 := Aside0.mk q5
      have HKB := Aside0.mk hkk
      have x0 : W.cell? ⟨wr.heap.size, 0, none⟩ = some (.int .i64 xa) := (blk_cell q1 0).trans rfl
      have x1 : W.cell? ⟨wr.heap.size, 1, none⟩ = some (.int .i64 xb) := (blk_cell q1 1).trans rfl
      have x2 : W.cell? ⟨wr.heap.size, 2, none⟩ = some (.string (strOfNums xs)) := (blk_cell q1 2).trans rfl
      have hwW := q5.size
      clear q1 q2 q3 q4 q5 hcW hkk hkb
      cases kb with
      | true =>
        go_upto_region 7 with (first | (go_at_call 27; go_loud (refine (HKB.out).mono ?_; rintro en w2 ⟨rfl, hb2⟩; have B2 := Aside0.mk hb2; have y0 := cell_bel hb2 x0; have y1 := cell_bel hb2 x1; have y2 := cell_bel hb2 x2; clear hb2 x0 x1 x2)))
        have hown := Q3.out.kept (row := none) (grown_below B2.out) (by cases (Value.slice Al K.length cl).ownBlock <;> simp)
        obtain ⟨hi53, hz53, hs53, hb53⟩ := HZS.out
        have w2W := B2.out.size
        go_wp2_with (first | (at_builtin; go_loud (refine wpList_append_own _ rfl _ _ 36 rfl w.heap.size 53 i53 _ 3 32 Try.underlying36 hi53 hz53 hs53 hb53 rfl (by decide) _ _ _ rfl (hown.alloc _) ⟨w2.heap.size, 0, none⟩ 1 1 #[.int .i64 xa, .int .i64 xb, .string (strOfNums xs)].toList rfl rfl (cells_new _ _ _) (by simp [Value.oneCell']) (by unfold maxLen; omega) (by omega) (by simp; omega) ?_; intro v' w9 hown' hgrow _; obtain ⟨Ap, cq, rfl⟩ := own_slice2 hown'; have O9 := Aside0.mk hown'; have G9 := Aside0.mk hgrow; clear hown' hgrow)))
        go_roundw
        case rel =>
          have hall := (World.grownBy_alloc w2 (.cells #[.int .i64 xa, .int .i64 xb, .string (strOfNums xs)] 53) (Value.slice Al K.length cl).ownBlock).trans G9.out
          have hC2 := CMap.below Q4.out B2.out
          refine ⟨d + 1, n', Ag, Ap, cg, cq, G, K ++ [(xa, xb, xs)], by go_num, by omega, rfl, by rw [List.length_append]; rfl, by omega, by omega, by rw [List.length_append]; simp; omega, ⟨?_⟩, ⟨?_⟩, ⟨?_⟩, ⟨?_⟩, ⟨?_⟩, ⟨?_⟩⟩
          · rw [OG1.out, HG.out]; simp
          · rw [OK1.out, HKK.out]; simp
          · exact (Q2.out.below B2.out).row hown (by decide) hall
          · rw [List.length_append, flat3_snoc]; exact O9.out
          · rw [← SK.out]
            obtain ⟨o, ho, hc⟩ := CMap.obj hC2
            exact hC2.kept hall (own_offm hown ho hc).symm
          · exact upd_grown (upd_below Q5.out B2.out) hall (fun r er => Or.inr (own_ge hown er).1)
        case measure => simp [intOf]; omega
      | false =>
        go_upto_region 8 with (first | (go_at_call 27; go_loud (refine (HKB.out).mono ?_; rintro en w2 ⟨rfl, hb2⟩; have B2 := Aside0.mk hb2; have y0 := cell_bel hb2 x0; have y1 := cell_bel hb2 x1; have y2 := cell_bel hb2 x2; clear hb2 x0 x1 x2)))
        obtain ⟨cb, W3, hcv, b3, hs3, hb3⟩ := bytes_new w2 xs O6.out
        obtain ⟨vs, hown, hbs⟩ := (Q2.out.below B2.out).below b3
        obtain ⟨hi27, hz27, hs27, hb27⟩ := HZT.out
        have HB3 := Aside0.mk hb3
        have HBS := Aside0.mk hbs
        have B3 := Aside0.mk b3
        have w2W := B2.out.size
        have w3W := b3.size
        clear hb3 hbs b3 hs3
        go_upto_region 9 with (first | (at_builtin; go_loud (refine wpList_append_own _ rfl _ _ 28 rfl w.heap.size 27 i27 _ 1 24 Try.underlying28 hi27 hz27 hs27 hb27 rfl (by decide) _ _ _ rfl (hown.alloc _) ⟨W3.heap.size, 0, none⟩ 1 1 [.slice (some ⟨w2.heap.size, 0, none⟩) xs.length cb] rfl rfl (cell_one_new _ _ _) (by simp [Value.oneCell']) (by unfold maxLen; omega) (by omega) (by simp; omega) ?_; intro v' w9 hown' hgrow _; obtain ⟨Ap, cq, rfl⟩ := own_slice2 hown'; have O9 := Aside0.mk hown'; have G9 := Aside0.mk hgrow; clear hown' hgrow)))
        have hsp := SP.out
        have hsg := SG.out
        obtain ⟨c1, hc1⟩ : ∃ c1, cnt (K ++ L.drop (d + 1)) xa xb = c1 := ⟨_, rfl⟩
        have hc1b : c1 ≤ 128 := by have := cnt_le (K ++ L.drop (d + 1)) xa xb; rw [List.length_append, List.length_drop] at this; omega
        rw [hc1] at hsp hsg
        have SG2 := Aside0.mk hsg
        refine wp_gen (fun V => V.heap[wr.heap.size]? = some (.cells #[.int .i64 xa, .int .i64 xb, .string (strOfNums xs)] 53 (0, 0)) ∧ Gone V w.heap.size (.slice Ap (G.length + 1) cq) (G ++ [(xa, xb, xs)]) ∧ V.ownsRow w.heap.size 53 3 (.slice Al K.length cl) K.length (flat3 K) ∧ CMap V bm n' (fun x y => (cnt (K ++ L.drop d) x y : Int)) ∧ Upd (fun j => j = bm) w V ∧ IsB z V g bm mo (.slice (some ⟨gr, 0, none⟩) L.length c) lo) ?_ ?_
        · have hall := (World.grownBy_alloc W3 (.cells #[.slice (some ⟨w2.heap.size, 0, none⟩) xs.length cb] 27) (Value.slice Ag G.length cg).ownBlock).trans G9.out
          have hC2 := (CMap.below Q4.out B2.out).below B3.out
          have hO2 := (Q3.out.kept (row := none) (grown_below B2.out) (by cases (Value.slice Al K.length cl).ownBlock <;> simp)).kept (row := none) (grown_below B3.out) (by cases (Value.slice Al K.length cl).ownBlock <;> simp)
          have hX := blk_below (blk_below Q1.out B2.out) B3.out
          have hU := upd_grown (upd_below (upd_below Q5.out B2.out) B3.out) hall (fun r er => Or.inr (own_ge hown er).1)
          refine ⟨(hall.block _ (blk_lt hX) (own_off hown hX (by decide)).symm).trans hX, Gone.snoc hown HBS.out ?_ O9.out G9.out, hO2.kept hall (own_apart hO2 hown (by decide)), ?_, hU, ⟨hU.far HI.out.1 (fun e => HBM.out e.symm), HI.out.2⟩⟩
          · obtain ⟨k1, c2, cs, fr, e1, e2, e3, e4⟩ := HB3.out
            exact ⟨k1, c2, cs, fr, e1, by omega, e3, e4⟩
          · obtain ⟨o, ho, hc⟩ := CMap.obj hC2
            exact hC2.kept hall (own_offm hown ho hc).symm
        clear hown y0 y1 y2 HB3 HBS O9 G9 hcv B2 B3 Q1 Q2 Q3 Q4 Q5 HKB hsg
        rintro V ⟨q1, q2, q3, q4, q5, q6⟩
        have Q1 := Aside0.mk q1
        have Q2 := Aside0.mk q2
        have Q3 := Aside0.mk q3
        have Q5 := Aside0.mk q5
        have Q6 := Aside0.mk q6
        have x0 : V.cell? ⟨wr.heap.size, 0, none⟩ = some (.int .i64 xa) := (blk_cell q1 0).trans rfl
        have x1 : V.cell? ⟨wr.heap.size, 1, none⟩ = some (.int .i64 xb) := (blk_cell q1 1).trans rfl
        have g2 : V.cell? ⟨g, 2, none⟩ = some (.map (some bm)) := (blk_cell q6.1 2).trans rfl
        have l1 : (Instr.lookup 37 (.map (some bm)) (.agg #[.int .i64 xa, .int .i64 xb]) false).run Try.prog V.drew = .ok (.int .i64 ((c1 : Int) + 1)) V.drew := by
          have := CMap.look (w := V.drew) (a := xa) (b := xb) q4 (wf64 (by omega) (by omega)) (wf64 (by omega) (by omega))
          rw [hsp] at this
          exact this
        obtain ⟨v0, st, w1, hent, hmid, hst⟩ := CMap.entry2 (w := V.drew) (a := xa) (b := xb) q4 (by unfold maxLen; omega) (wf64 (by omega) (by omega)) (wf64 (by omega) (by omega))
        obtain ⟨w6, hes, m6, t6⟩ := hst (c1 : Int) (wf64 (by omega) (by omega))
        have l2 : (Instr.lookup 37 (.map (some bm)) (.agg #[.int .i64 xa, .int .i64 xb]) false).run Try.prog w1 = .ok (.int .i64 ((c1 : Int) + 1)) w1 := by
          rw [hsp] at hmid
          exact hmid
        unfold kv at hent
        replace hes : (Instr.entryStore 37 (.map (some bm)) (.int .i64 (st : Int)) (.int .i64 (c1 : Int))).run Try.prog w1 = .ok () w6 := hes
        rw [SG2.out] at m6
        have M6 := Aside0.mk m6
        have T6 := Aside0.mk t6
        have Q4 := Aside0.mk q4
        clear q1 q2 q3 q4 q5 q6 hst m6 t6 hsp hmid
        go_region
        all_goals go_upto_region 10 with (fail)
        refine wp_gen (fun V => V.heap[wr.heap.size]? = some (.cells #[.int .i64 xa, .int .i64 xb, .string (strOfNums xs)] 53 (0, 0)) ∧ Gone V w.heap.size (.slice Ap (G.length + 1) cq) (G ++ [(xa, xb, xs)]) ∧ V.ownsRow w.heap.size 53 3 (.slice Al K.length cl) K.length (flat3 K) ∧ CMap V bm (n' + 1) (fun x y => (cnt (K ++ L.drop (d + 1)) x y : Int)) ∧ Upd (fun j => j = bm) w V ∧ IsB z V g bm mo (.slice (some ⟨gr, 0, none⟩) L.length c) lo) ?_ ?_
        · have hgr : V.drew.grownBy w6 (some bm) := T6.out.grown
          obtain ⟨o, ho, hc⟩ := CMap.obj Q4.out
          have hU := upd_grown (w := V.drew) (Upd.drew Q5.out) hgr (fun r er => Or.inl (by cases er; rfl))
          refine ⟨(hgr.block _ (blk_lt Q1.out) (fun e => ?_)).trans Q1.out, Gone.bm (w := V.drew) Q2.out hgr ho hc, World.ownsRow.kept (w := V.drew) Q3.out hgr (Or.inr (own_offm Q3.out ho hc)), M6.out, hU, ⟨hU.far HI.out.1 (fun e => HBM.out e.symm), HI.out.2⟩⟩
          cases e
          rw [Q1.out] at ho
          cases ho
          exact hc _ _ _ rfl
        clear x0 x1 g2 l1 l2 hent hes M6 T6 Q1 Q2 Q3 Q4 Q5 Q6
        rintro V2 ⟨q1, q2, q3, q4, q5, q6⟩
        have Q1 := Aside0.mk q1
        have Q2 := Aside0.mk q2
        have Q3 := Aside0.mk q3
        have Q4 := Aside0.mk q4
        have Q5 := Aside0.mk q5
        have Q6 := Aside0.mk q6
        have x0 : V2.cell? ⟨wr.heap.size, 0, none⟩ = some (.int .i64 xa) := (blk_cell q1 0).trans rfl
        have x1 : V2.cell? ⟨wr.heap.size, 1, none⟩ = some (.int .i64 xb) := (blk_cell q1 1).trans rfl
        have g2 : V2.cell? ⟨g, 2, none⟩ = some (.map (some bm)) := (blk_cell q6.1 2).trans rfl
        have l1 : ∀ m, (Instr.lookup 37 (.map (some bm)) (.agg #[.int .i64 xa, .int .i64 xb]) false).run Try.prog (V2.drewN m) = .ok (.int .i64 (c1 : Int)) (V2.drewN m) := fun m => by
          have := (q4.drewN m).look (a := xa) (b := xb) (wf64 (by omega) (by omega)) (wf64 (by omega) (by omega))
          rw [hc1] at this
          exact this
        clear q1 q2 q3 q4 q5 q6
        by_cases hc0 : c1 = 0
        · have hz : ((c1 : Int) == 0) = true := by simp [hc0]
          have HC0 := Aside0.mk hc0
          clear hc0
          go_quiet (fail)
          go_upto_region 11 with (fail)
          refine wp_gen (fun V => V.heap[wr.heap.size]? = some (.cells #[.int .i64 xa, .int .i64 xb, .string (strOfNums xs)] 53 (0, 0)) ∧ Gone V w.heap.size (.slice Ap (G.length + 1) cq) (G ++ [(xa, xb, xs)]) ∧ V.ownsRow w.heap.size 53 3 (.slice Al K.length cl) K.length (flat3 K) ∧ CMap V bm (n' + 1) (fun x y => (cnt (K ++ L.drop (d + 1)) x y : Int)) ∧ Upd (fun j => j = bm) w V ∧ IsB z V g bm mo (.slice (some ⟨gr, 0, none⟩) L.length c) lo) ⟨Q1.out, Q2.out, Q3.out, Q4.out, Q5.out.drewN _, Q6.out⟩ ?_
          clear x0 x1 g2 l1 Q1 Q2 Q3 Q4 Q5 Q6
          rintro V3 ⟨q1, q2, q3, q4, q5, q6⟩
          have Q1 := Aside0.mk q1
          have Q2 := Aside0.mk q2
          have Q3 := Aside0.mk q3
          have Q4 := Aside0.mk q4
          have Q5 := Aside0.mk q5
          have Q6 := Aside0.mk q6
          have x0 : V3.cell? ⟨wr.heap.size, 0, none⟩ = some (.int .i64 xa) := (blk_cell q1 0).trans rfl
          have x1 : V3.cell? ⟨wr.heap.size, 1, none⟩ = some (.int .i64 xb) := (blk_cell q1 1).trans rfl
          have g2 : V3.cell? ⟨g, 2, none⟩ = some (.map (some bm)) := (blk_cell q6.1 2).trans rfl
          obtain ⟨w7, hdel, m7, t7⟩ := CMap.drop (w := V3.drew) (a := xa) (b := xb) q4 (wf64 (by omega) (by omega)) (wf64 (by omega) (by omega)) 0
          have hm7 : setM (fun x y => (cnt (K ++ L.drop (d + 1)) x y : Int)) xa xb 0 = fun x y => (cnt (K ++ L.drop (d + 1)) x y : Int) := by
            rw [← SG2.out, setM_twice, HC0.out]; rfl
          rw [hm7] at m7
          unfold kv at hdel
          have M7 := Aside0.mk m7
          have T7 := Aside0.mk t7
          clear q1 q2 q3 q4 q5 q6 m7 t7 hm7
          go_region
          all_goals go_wp2
          go_roundw
          case rel =>
            have hgr : V3.drew.grownBy w7 (some bm) := T7.out.grown
            obtain ⟨o, ho, hc⟩ := CMap.obj Q4.out
            exact ⟨d + 1, n' + 1, Ap, Al, cq, cl, G ++ [(xa, xb, xs)], K, by go_num, by omega, by rw [List.length_append]; rfl, rfl, by omega, by rw [List.length_append]; simp; omega, by omega, ⟨by rw [OG1.out, HG.out]; simp⟩, ⟨by rw [OK1.out, HKK.out]; simp⟩, ⟨by rw [List.length_append]; exact Gone.bm (w := V3.drew) Q2.out hgr ho hc⟩, ⟨World.ownsRow.kept (w := V3.drew) Q3.out hgr (Or.inr (own_offm Q3.out ho hc))⟩, M7, ⟨upd_grown (w := V3.drew) (Upd.drew Q5.out) hgr (fun r er => Or.inl (by cases er; rfl))⟩⟩
          case measure => simp [intOf]; omega
        · have hz : ((c1 : Int) == 0) = false := by simp [hc0]
          go_quiet (fail)
          go_wp2
          go_roundw
          case rel =>
            exact ⟨d + 1, n' + 1, Ap, Al, cq, cl, G ++ [(xa, xb, xs)], K, by go_num, by omega, by rw [List.length_append]; rfl, rfl, by omega, by rw [List.length_append]; simp; omega, by omega, ⟨by rw [OG1.out, HG.out]; simp⟩, ⟨by rw [OK1.out, HKK.out]; simp⟩, ⟨by rw [List.length_append]; exact Q2.out⟩, ⟨Q3.out⟩, ⟨Q4.out⟩, ⟨Q5.out.drewN _⟩⟩
          case measure => simp [intOf]; omega
    · have hdb : decide ((d : Int) < (L.length : Int)) = false := decide_eq_false (by omega)
      obtain rfl : d = L.length := by omega
      have hB : IsB z wr g bm mo (.slice A L.length c) lo := ⟨P4.out.far HI.out.1 (fun e => HBM.out e.symm), HI.out.2⟩
      have g1 : wr.cell? ⟨g, 1, none⟩ = some (.slice A L.length c) := (blk_cell hB.1 1).trans rfl
      have gf1 : wr.frozen? ⟨g, 1, none⟩ = false := blk_frozen hB.1 1
      have hkl := HKK.out
      have hgl2 := HG.out
      have hm5 := P3.out
      rw [List.take_length] at hkl hgl2
      rw [List.drop_length, List.append_nil] at hm5
      have HKL := Aside0.mk hkl
      have HGL := Aside0.mk hgl2
      have HB := Aside0.mk hB
      have HM5 := Aside0.mk hm5
      clear hB hkl hgl2 hm5 HKK HG
      go_wp2
      go_ret
      rw [← HKL.out, ← HGL.out]
      have hgr := grownBy_setC wr ⟨g, 1, none⟩ (.slice Al K.length cl)
      refine ⟨Ag, Al, cg, cl, n', rfl, ?_, HB.out.set_1 _, Go.Joins.ownsRow_le (P2.out.kept hgr (Or.inr (own_off P2.out HB.out.1 (by decide)))) ?_, HM5.out.kept hgr ?_, by omega, ?_⟩
      · refine P1.out.kept hgr (fun r er cs t fr ht hh => ?_)
        cases er
        rw [HB.out.1] at hh
        cases hh
        rcases ht with e | e <;> cases e
      · have := HI.out.2; omega
      · intro e
        exact HBM.out (by cases e; rfl)
      · exact Upd.setCell (S := fun j => j = g ∨ j = bm) (p := ⟨g, 1, none⟩) (P4.out.mono (fun k _ h => Or.inr h)) (Or.inl (Or.inl rfl)) _
end Go.Proofs.Ytoeaoanaefipaaa.Bf7
