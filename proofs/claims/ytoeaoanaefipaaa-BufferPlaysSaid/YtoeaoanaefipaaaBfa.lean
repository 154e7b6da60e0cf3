/- Putting into a buffer that has room or not. -/
import Derived.Test.YtoeaoanaefipaaaProg
import Derived.Below
import Derived.Deep.Draws
import Derived.Deep.AppendLies
import Derived.Maps.AppendAt
import Derived.OwnWalk
import Derived.Laws.BytesArg
import Derived.Laws.MakeOwn
import Derived.Laws.OwnMore
import Derived.Deep.OwnRows
import Derived.Tactics
import Derived.Lib.ConvBytes
import Derived.Laws.Slices
import Derived.WalkKit
import Derived.KernelRfl
import Derived.RowKit3
import Derived.Deep.LoopGhost
import Derived.Deep.QuietTactic
import Derived.BigQuiet
import Derived.WideLaws
import Derived.Deep.DeepCutAuto
import Derived.Deep.CutBlock
import Derived.Deep.RegionHeld3
import Derived.Laws.Rows
import Derived.Lib.AppendStr
import Derived.ArgAppend
import Derived.Laws.IdiomCopy
import Derived.OrdersHeld
import Derived.Laws.BitsLemmas
import Derived.RowKit
import Derived.RegionTactic
import Derived.ChangeAlike
import Derived.Outline
import Derived.LoopTactic
import Derived.WalkSpells
import Derived.WalkLawsBesides
import Derived.Lib.Hide
import Derived.StillTailTactics
import Derived.Deep.RegionWith
import Derived.Deep.RegionLaw
import Derived.Deep.DeepFit
import Derived.Deep.DeepMust
import Derived.Test.YtoeaoanaefipaaaWWords
import Derived.Test.YtoeaoanaefipaaaWLast
import Derived.Test.YtoeaoanaefipaaaWTab
import Derived.Test.YtoeaoanaefipaaaWFour
import Derived.Test.YtoeaoanaefipaaaWQPut
import Derived.Test.YtoeaoanaefipaaaWApart
import Derived.Test.YtoeaoanaefipaaaWArr
import Derived.Test.YtoeaoanaefipaaaWZeros
import Derived.Test.YtoeaoanaefipaaaWFoot
import Derived.Test.YtoeaoanaefipaaaWKept
import Derived.Test.YtoeaoanaefipaaaWShare
import Derived.Test.YtoeaoanaefipaaaWN
import Derived.Test.YtoeaoanaefipaaaWFootNe
import Derived.Test.YtoeaoanaefipaaaWAt
import Derived.Test.YtoeaoanaefipaaaWEqStruct
import Derived.Test.YtoeaoanaefipaaaWRepsOne
import Derived.Test.YtoeaoanaefipaaaWInv
import Derived.Test.YtoeaoanaefipaaaWInvWords
import Derived.Test.YtoeaoanaefipaaaWGuard
import Derived.Test.YtoeaoanaefipaaaWNEv
import Derived.Test.YtoeaoanaefipaaaWMore
import Derived.Test.YtoeaoanaefipaaaBf9
import Derived.Test.YtoeaoanaefipaaaBfN
import Derived.Lib.Bytes
namespace Go.Proofs.Ytoeaoanaefipaaa.Bfa
open Go.RowKit Go.Proofs.YtoeaoanaefipaaaW.PrintWords Go.Proofs.YtoeaoanaefipaaaW.PrintLast Go.Proofs.YtoeaoanaefipaaaW.PrintMore 
attribute [local go_sem] max2_int min2_int max_two min_two max_three min_three max_four min_four
set_option linter.unusedVariables false
set_option linter.unusedSimpArgs false
open Go.Maps Go.ChangeMaps Go.Proofs.Ytoeaoanaefipaaa.Bf1 Go.Proofs.Ytoeaoanaefipaaa.Bf2 Go.Proofs.Ytoeaoanaefipaaa.Bf3 Go.Proofs.Ytoeaoanaefipaaa.BfP Go.Proofs.Ytoeaoanaefipaaa.Bf4 Go.Proofs.Ytoeaoanaefipaaa.Bf5 Go.Proofs.Ytoeaoanaefipaaa.Bf6 Go.Proofs.Ytoeaoanaefipaaa.Bf7 Go.Proofs.Ytoeaoanaefipaaa.Bf8 Go.Proofs.Ytoeaoanaefipaaa.Bf9 Go.Proofs.Ytoeaoanaefipaaa.BfN
attribute [local go_sem] cellS1 frozenS1 cellS2 frozenS2 cellS3 frozenS3 cellS4 frozenS4 cellS5 frozenS5 cellS6 frozenS6

theorem pureP (mo : Int) (L : List It) (lo a b : Int) (s : List Int) (hv : 0 ≤ a ∧ a ≤ 65535 ∧ 1 ≤ b ∧ b ≤ 256 ∧ s.length ≤ 96) : putS mo L lo a b s = if (L.any fun y => decide (y.2.2 = s)) = true then (4, L, lo) else if mo ≤ L.length then (if cnt L (fullF L).1 (fullF L).2 ≤ cnt L a b then (9, L, lo + 1) else (0, L.eraseIdx (newT L (fullF L) L.length).toNat ++ [(a, b, s)], lo + 1)) else (0, L ++ [(a, b, s)], lo) := by
  unfold putS
  rw [if_neg (by simpa using hv)]
theorem u8_injT {l l' : List Int} (h : ∀ y ∈ l, 0 ≤ y ∧ y ≤ 255) (h' : ∀ y ∈ l', 0 ≤ y ∧ y ≤ 255) (e : (strOfNums l).toList = (strOfNums l').toList) : l = l' := by
  refine u8_inj h h' ?_
  rw [Go.Lib.strOfNums_toList, Go.Lib.strOfNums_toList] at e
  have e1 : (strOfNums l).data.toList = (strOfNums l').data.toList := e
  have e2 : (strOfNums l).data = (strOfNums l').data := Array.toList_inj.1 e1
  cases h3 : strOfNums l
  cases h4 : strOfNums l'
  rw [h3, h4] at e2
  dsimp only at e2
  rw [e2]
theorem own_form {w : World} {b e size n c : Nat} {A : Option Addr} {xs : List Value} (h : w.ownsRow b e size (.slice A n c) n xs) : (A = none ∧ n = 0 ∧ c = 0) ∨ ∃ gk, A = some ⟨gk, 0, none⟩ ∧ n ≤ c ∧ ∀ j u, xs[j]? = some u → w.cell? ((⟨gk, 0, none⟩ : Addr).add j) = some u := by
  rcases h.2 with ⟨e, h0⟩ | ⟨g, cap, cur, e, hb, hg, hnc, _, hs, ht⟩
  · cases e
    exact Or.inl ⟨rfl, rfl, rfl⟩
  · cases e
    refine Or.inr ⟨g, rfl, hnc, fun j v hj => ?_⟩
    have hjl : j < n * size := by
      have := (List.getElem?_eq_some_iff.1 hj).1
      rw [h.1] at this
      exact this
    rw [← ht, List.getElem?_take_of_lt hjl] at hj
    rw [show ((⟨g, 0, none⟩ : Addr).add j) = ⟨g, j, none⟩ by simp [Addr.add] <;> omega, blk_cell hg]
    simpa using hj
theorem keepS {V U U' : World} {g bk : Nat} {x y u : Value} (h : Below V.heap.size V U ∧ U.cell? ⟨g, 1, none⟩ = some (x) ∧ U.cell? ⟨bk, 0, none⟩ = some (y) ∧ U.cell? ⟨bk, 1, none⟩ = some (u) ∧ U.frozen? ⟨g, 1, none⟩ = false) (hb : Below U.heap.size U U') : Below V.heap.size V U' ∧ U'.cell? ⟨g, 1, none⟩ = some (x) ∧ U'.cell? ⟨bk, 0, none⟩ = some (y) ∧ U'.cell? ⟨bk, 1, none⟩ = some (u) ∧ U'.frozen? ⟨g, 1, none⟩ = false :=
  ⟨below_step h.1 hb, cell_bel hb h.2.1, cell_bel hb h.2.2.1, cell_bel hb h.2.2.2.1, (World.frozen?_of_block (hb.block _ (World.block_lt_of_cell? U _ h.2.1))).trans h.2.2.2.2⟩
theorem own_new {w : World} {b e size n : Nat} {v : Value} {xs : List Value} (h : w.ownsRow b e size v n xs) (hn : 0 < n) : b < w.heap.size := by
  rcases h.2 with ⟨_, h0⟩ | ⟨g, cap, cur, e, hb, hg, _⟩
  · omega
  · have := blk_lt hg
    omega
theorem own_new2 {V w : World} {o : Obj} {e size n : Nat} {v : Value} {xs : List Value} (h : w.ownsRow (World.alloc V.drew o).heap.size e size v (n + 1) xs) : V.heap.size + 2 ≤ w.heap.size := by
  have h1 := own_new h (Nat.succ_pos _)
  have h2 : (World.alloc V.drew o).heap.size = V.heap.size + 1 := by simp
  omega
theorem step_put (K : List It) (a b : Int) (s : List Int) : setM (fun x y => (cnt K x y : Int)) a b ((cnt K a b : Int) + 1) = fun x y => (cnt (K ++ [(a, b, s)]) x y : Int) := by
  funext x y
  unfold setM
  rw [cnt_append, cnt_one]
  by_cases h : x = a ∧ y = b
  · rw [if_pos h, if_pos ⟨h.1.symm, h.2.symm⟩, h.1, h.2]; simp
  · rw [if_neg h, if_neg (fun e => h ⟨e.1.symm, e.2.symm⟩)]; simp
theorem any_no (L : List It) (s : List Int) (h : ∀ j (hj : j < L.length), (L[j]).2.2 ≠ s) : (L.any fun y => decide (y.2.2 = s)) = false := by
  rw [Bool.eq_false_iff]
  intro e
  obtain ⟨x, hx, hh⟩ := List.any_eq_true.1 e
  obtain ⟨j, hj, rfl⟩ := List.getElem_of_mem hx
  exact h j hj (by simpa using hh)
set_option maxRecDepth 100000 in
set_option maxHeartbeats 2000000 in
theorem put_good (g : Nat) (mo : Int) (L : List It) (lo : Int) (m : Nat) (a b : Int) (As : Option Addr) (s : List Int) (cs : Nat) (z w : World) (h : IsBuf z w g mo L lo m) (hC : ∀ W, Keep z w W → Kd.C (Kd.int .u8) W As s.length s) (hs : ∀ y ∈ s, 0 ≤ y ∧ y ≤ 255) (hm : m + 66 < maxLen) (hv : 0 ≤ a ∧ a ≤ 65535 ∧ 1 ≤ b ∧ b ≤ 256 ∧ s.length ≤ 96) : Calls Try.prog 8 #[.pointer (some ⟨g, 0, none⟩), .int .i64 a, .int .i64 b, .slice As s.length cs] w fun en w' => en = .returned (.int .i64 (putS mo L lo a b s).1) ∧ IsBuf z w' g mo (putS mo L lo a b s).2.1 (putS mo L lo a b s).2.2 (m + 66) ∧ Keep z w w' := by
  have H := Aside0.mk h
  obtain ⟨bm, A, c, n, h1, h2, h3, h4, h5, h6, h7, h8, h9, h10, h11⟩ := h
  obtain ⟨i53, hi53, hz53, hs53, hb53⟩ := info_parts info53
  have HZS := Aside0.mk (And.intro hi53 (And.intro hz53 (And.intro hs53 hb53)))
  have HI := Aside0.mk h1
  have HR := Aside0.mk h2
  have HM := Aside0.mk h3
  have HL := Aside0.mk h6
  have HC := Aside0.mk hC
  have HSB := Aside0.mk hs
  have HV := Aside0.mk hv
  have hbg : bm ≠ g := by
    obtain ⟨o, k1, k2⟩ := CMap.obj h3
    intro e
    subst e
    rw [h1.1] at k1
    cases k1
    exact k2 _ _ _ rfl
  have HBG := Aside0.mk hbg
  have hzw : z.heap.size ≤ w.heap.size := by have := h1.2; have := blk_lt h1.1; omega
  have HZW := Aside0.mk hzw
  have c1 : w.cell? ⟨g, 1, none⟩ = some (.slice A L.length c) := (blk_cell h1.1 1).trans rfl
  have hl64 : L.length ≤ 64 := by omega
  have hmx := hm
  unfold maxLen at hmx
  obtain ⟨v1, v2, v3, v4, v5⟩ := hv
  have hsz : decide ((96 : Int) < (s.length : Int)) = false := decide_eq_false (by omega)
  clear h1 h2 h3 h6 hC hs hi53 hz53 hs53 hb53 v5 hbg hzw
  go_enter Try.func8, Try.ntmps8
  go_wp2_with (first | (go_at_call 21; go_loud (refine (none_ok g bm mo _ lo z _ HI.out).mono ?_; rintro en w1 ⟨rfl, e1⟩; rw [e1]; clear e1)))
  go_loopw [34] (fun vi wr => ∃ d : Nat, vi = .int .i64 d ∧ d ≤ L.length ∧ Aside0 (∀ j (hj : j < L.length), j < d → (L[j]).2.2 ≠ s) ∧ Aside0 (Below w.heap.size w wr)) (fun vi _ => L.length - (intOf vi).toNat)
  case atStart => exact ⟨0, rfl, Nat.zero_le _, ⟨fun j _ hj => absurd hj (Nat.not_lt_zero _)⟩, ⟨Below.refl _ _⟩⟩
  case round =>
    obtain ⟨d, rfl, hd, HD, P1⟩ := hrel
    by_cases hdl : d < L.length
    · have hdb : decide ((d : Int) < (L.length : Int)) = true := decide_eq_true (by omega)
      obtain ⟨gr, e, hbg, h0, h1, h2⟩ := row_it HR.out hdl
      subst e
      have hok := HL.out _ (List.getElem_mem hdl)
      have hmem : L[d] ∈ L := List.getElem_mem hdl
      obtain ⟨x, hx⟩ : ∃ x, L[d] = x := ⟨_, rfl⟩
      have HX := Aside0.mk hx
      rw [hx] at h0 h1 h2 hok hmem
      have HMEM := Aside0.mk hmem
      clear hx hmem
      obtain ⟨xa, xb, xs⟩ := x
      dsimp only at h0 h1 h2
      have HOK := Aside0.mk hok
      clear hok
      have r0 := cell_bel P1.out h0
      have r1 := cell_bel P1.out h1
      have r2 := cell_bel P1.out h2
      clear h0 h1 h2
      go_upto_region 12 with (fail)
      refine wp_gen (fun W => W.heap[wr.heap.size]? = some (.cells #[.int .i64 xa, .int .i64 xb, .string (strOfNums xs)] 53 (0, 0)) ∧ Below w.heap.size w W) ⟨blk_new _ _, below_alloc P1.out _⟩ ?_
      clear r0 r1 r2 P1
      rintro W ⟨q1, q2⟩
      have x2 : W.cell? ⟨wr.heap.size, 2, none⟩ = some (.string (strOfNums xs)) := (blk_cell q1 2).trans rfl
      have hcv : (convert 27 9 (.slice As s.length cs)).run Try.prog W = .ok (.string (strOfNums s)) W := Kd.C_string Try.underlying27 Try.underlying5 Try.underlying9 (HC.out W (Keep.of_below q2))
      have Q1 := Aside0.mk q1
      have Q2 := Aside0.mk q2
      clear q1 q2
      by_cases hq : xs = s
      · have heq : ((strOfNums xs).toList == (strOfNums s).toList) = true := by rw [hq]; simp
        have HQ := Aside0.mk hq
        clear hq
        go_wp2
        go_ret
        have hp := pureP mo L lo a b s HV.out
        rw [if_pos (List.any_eq_true.2 ⟨_, HMEM.out, by simpa using HQ.out⟩)] at hp
        rw [hp]
        exact ⟨rfl, (H.out.below Q2.out).mono (by omega), Keep.of_below Q2.out⟩
      · have heq : ((strOfNums xs).toList == (strOfNums s).toList) = false := by
          rw [Bool.eq_false_iff]
          intro e
          exact hq (u8_injT HOK.out.2.2.2.2.2 HSB.out (by simpa using e))
        have HQ := Aside0.mk hq
        clear hq
        go_wp2
        go_roundw
        case rel =>
          refine ⟨d + 1, by go_num, by omega, ⟨fun j hj hjd => ?_⟩, Q2⟩
          by_cases hjd2 : j = d
          · subst hjd2
            rw [HX.out]
            exact HQ.out
          · exact HD.out j hj (by omega)
        case measure => simp [intOf]; omega
    · have hdb : decide ((d : Int) < (L.length : Int)) = false := decide_eq_false (by omega)
      obtain rfl : d = L.length := by omega
      have hany := any_no L s (fun j hj => HD.out j hj hj)
      have hp := pureP mo L lo a b s HV.out
      rw [if_neg (by rw [hany]; simp)] at hp
      have HP := Aside0.mk hp
      clear hany hp HD
      go_upto_region 16 with (fail)
      refine wp_gen (fun W => W.heap[wr.heap.size]? = some (.cells #[.int .i64 a, .int .i64 b] 51 (0, 0)) ∧ Below w.heap.size w W ∧ w.heap.size ≤ wr.heap.size) ⟨blk_new _ _, below_alloc P1.out _, P1.out.size⟩ ?_
      obtain ⟨bk, hbk⟩ : ∃ bk, wr.heap.size = bk := ⟨_, rfl⟩
      rw [hbk]
      clear P1 hbk
      rintro W ⟨q1, q2, q3⟩
      have hI2 := HI.out.below q2
      have d0 : W.cell? ⟨g, 0, none⟩ = some (.int .i64 mo) := (blk_cell hI2.1 0).trans rfl
      have d1 : W.cell? ⟨g, 1, none⟩ = some (.slice A L.length c) := (blk_cell hI2.1 1).trans rfl
      have Q1 := Aside0.mk q1
      have Q2 := Aside0.mk q2
      clear q1 q2 hI2 c1
      by_cases hf : mo ≤ (L.length : Int)
      · have hfb : decide (mo ≤ (L.length : Int)) = true := decide_eq_true hf
        have hne : L ≠ [] := by intro e; subst e; simp at hf; omega
        obtain ⟨x, hx, ex, hmx2⟩ := fullF_spec L HL.out hne
        obtain ⟨mi, hmi, emi, hq1, hq2⟩ := newest_some L x hx
        have hfw := fullT_wf L HL.out L.length (Nat.le_refl _)
        obtain ⟨fp, hfp⟩ : ∃ fp, fullF L = fp := ⟨_, rfl⟩
        rw [show fullT L L.length = fullF L from rfl, hfp] at hfw
        rw [← ex, hfp] at emi
        have hpv := HP.out
        rw [if_pos hf, hfp, emi, Int.toNat_natCast] at hpv
        have HPV0 := Aside0.mk hpv
        obtain ⟨fa, fb⟩ := fp
        dsimp only at hfw hpv
        have HFC : Aside0 (∀ W', Below w.heap.size w W' → Calls Try.prog 22 #[.pointer (some ⟨g, 0, none⟩)] W' fun en w'' => en = .returned (.agg #[.int .i64 fa, .int .i64 fb]) ∧ Below W'.heap.size W' w'') := ⟨fun W' hb => by
          have := fullest_ok g bm mo A c lo z.heap.size n L z W' (HI.out.below hb) (HR.out.kept (row := none) (grown_below hb) (by cases (Value.slice A L.length c).ownBlock <;> simp)) (HM.out.below hb) HL.out hl64
          rw [hfp] at this
          exact this⟩
        have HNE := Aside0.mk emi
        clear hpv hne hx ex hfp emi hmx2 hq1 hq2 x
        go_quiet (fail)
        go_upto_region 18 with (first | (go_at_call 22; go_loud (refine (HFC.out _ (pw_below_drewN Q2.out _)).mono ?_; rintro en w3 ⟨rfl, b3⟩; have B3 := Aside0.mk b3; clear b3)))
        have hb3 : Below w.heap.size w w3 := below_step (pw_below_drewN Q2.out _) B3.out
        refine wp_gen (fun V => V.heap[bk]? = some (.cells #[.int .i64 a, .int .i64 b] 51 (0, 0)) ∧ V.heap[w3.heap.size]? = some (.cells #[.int .i64 fa, .int .i64 fb] 51 (0, 0)) ∧ Below w.heap.size w V) ⟨blk_alloc (blk_below (blk_drewN Q1.out _) B3.out) _, blk_new _ _, below_alloc hb3 _⟩ ?_
        obtain ⟨fk, hfk⟩ : ∃ fk, w3.heap.size = fk := ⟨_, rfl⟩
        rw [hfk]
        clear d0 d1 Q1 Q2 B3 hb3 hfk HFC
        rintro V ⟨q1, q2, q3⟩
        have hIV := HI.out.below q3
        have Q1 := Aside0.mk q1
        have Q2 := Aside0.mk q2
        have Q3 := Aside0.mk q3
        have d3 : V.cell? ⟨g, 3, none⟩ = some (.int .i64 lo) := (blk_cell hIV.1 3).trans rfl
        have f3 : V.frozen? ⟨g, 3, none⟩ = false := blk_frozen hIV.1 3
        clear q1 q2 q3 hIV
        go_upto_region 19 with (fail)
        have hIV := HI.out.below Q3.out
        have hRV := HR.out.kept (row := none) (grown_below Q3.out) (by cases (Value.slice A L.length c).ownBlock <;> simp)
        refine wp_gen (fun U => U.heap[bk]? = some (.cells #[.int .i64 a, .int .i64 b] 51 (0, 0)) ∧ U.heap[fk]? = some (.cells #[.int .i64 fa, .int .i64 fb] 51 (0, 0)) ∧ IsB z U g bm mo (.slice A L.length c) (lo + 1) ∧ U.ownsRow z.heap.size 53 3 (.slice A L.length c) L.length (flat3 L) ∧ CMap U bm n (fun x y => (cnt L x y : Int)) ∧ Keep z w U) ⟨blk_far Q1.out (fun e => by have e1 := Q1.out; rw [show bk = g from e, hIV.1] at e1; cases e1) _, blk_far Q2.out (fun e => by have e1 := Q2.out; rw [show fk = g from e, hIV.1] at e1; cases e1) _, hIV.set_3 _, hRV.kept (grownBy_setC V ⟨g, 3, none⟩ _) (Or.inr (own_off hRV hIV.1 (by decide))), (HM.out.below Q3.out).kept (grownBy_setC V ⟨g, 3, none⟩ _) (fun e => HBG.out (by cases e; rfl)), (Keep.of_below Q3.out).trans (Keep.grown (grownBy_setC V ⟨g, 3, none⟩ _) (fun r er => by cases er; exact ⟨hIV.2, _, hIV.1, kind39 _⟩))⟩ ?_
        clear d3 f3 Q1 Q2 Q3 hIV hRV
        rintro U ⟨q1, q2, q3, q4, q5, q6⟩
        have x0 : U.cell? ⟨bk, 0, none⟩ = some (.int .i64 a) := (blk_cell q1 0).trans rfl
        have x1 : U.cell? ⟨bk, 1, none⟩ = some (.int .i64 b) := (blk_cell q1 1).trans rfl
        have y0 : U.cell? ⟨fk, 0, none⟩ = some (.int .i64 fa) := (blk_cell q2 0).trans rfl
        have y1 : U.cell? ⟨fk, 1, none⟩ = some (.int .i64 fb) := (blk_cell q2 1).trans rfl
        have g2 : U.cell? ⟨g, 2, none⟩ = some (.map (some bm)) := (blk_cell q3.1 2).trans rfl
        obtain ⟨co, hco⟩ : ∃ co, cnt L a b = co := ⟨_, rfl⟩
        obtain ⟨cf, hcf⟩ : ∃ cf, cnt L fa fb = cf := ⟨_, rfl⟩
        have l1 : ∀ m, (Instr.lookup 37 (.map (some bm)) (.agg #[.int .i64 a, .int .i64 b]) false).run Try.prog (U.drewN m) = .ok (.int .i64 (co : Int)) (U.drewN m) := fun m => by
          have := (q5.drewN m).look (a := a) (b := b) (wf64 (by omega) (by omega)) (wf64 (by omega) (by omega))
          rw [hco] at this
          exact this
        have l2 : ∀ m, (Instr.lookup 37 (.map (some bm)) (.agg #[.int .i64 fa, .int .i64 fb]) false).run Try.prog (U.drewN m) = .ok (.int .i64 (cf : Int)) (U.drewN m) := fun m => by
          have := (q5.drewN m).look (a := fa) (b := fb) (wf64 (by omega) (by omega)) (wf64 (by omega) (by omega))
          rw [hcf] at this
          exact this
        have Q1 := Aside0.mk q1
        have Q2 := Aside0.mk q2
        have Q3 := Aside0.mk q3
        have Q4 := Aside0.mk q4
        have Q5 := Aside0.mk q5
        have Q6 := Aside0.mk q6
        have hpv := HPV0.out
        rw [hco, hcf] at hpv
        clear q1 q2 q3 q4 q5 q6 hco hcf HPV0
        by_cases hcc : cf ≤ co
        · have hcb : decide ((cf : Int) ≤ (co : Int)) = true := decide_eq_true (by omega)
          rw [if_pos hcc] at hpv
          have HPV := Aside0.mk hpv
          clear hpv
          go_quiet (fail)
          go_wp2
          go_ret
          rw [HPV.out]
          dsimp only
          exact ⟨rfl, ⟨bm, A, c, n, Q3.out, Q4.out, Q5.out.drewN _, by omega, h5, HL.out, h7, h8, h9, by omega, by omega⟩, Q6.out.trans (Keep.of_below (pw_below_drewN (Below.refl _ _) _))⟩
        · have hcb : decide ((cf : Int) ≤ (co : Int)) = false := decide_eq_false (by omega)
          rw [if_neg hcc] at hpv
          have HPV := Aside0.mk hpv
          clear hpv
          go_quiet (fail)
          go_upto_region 22 with (first | (go_at_call 23; go_loud (refine (newest_ok g bm mo A c (lo + 1) z.heap.size L fa fb z _ (IsB.drewN Q3.out _) (World.ownsRow.kept (w := U) (row := none) Q4.out (grown_below (pw_below_drewN (Below.refl _ _) _)) (by cases (Value.slice A L.length c).ownBlock <;> simp)) hl64).mono ?_; rw [HNE.out]; rintro en w5 ⟨rfl, b5⟩; have B5 := Aside0.mk b5; clear b5)))
          have hb5 : Below U.heap.size U w5 := below_step (pw_below_drewN (Below.refl _ _) _) B5.out
          refine wp_gen (fun V => V.heap[bk]? = some (.cells #[.int .i64 a, .int .i64 b] 51 (0, 0)) ∧ V.heap[w5.heap.size]? = some (.cells #[.int .i64 (mi : Int)] 3 (0, 0)) ∧ IsB z V g bm mo (.slice A L.length c) (lo + 1) ∧ V.ownsRow z.heap.size 53 3 (.slice A L.length c) L.length (flat3 L) ∧ CMap V bm n (fun x y => (cnt L x y : Int)) ∧ Keep z w V) ⟨blk_alloc (blk_below Q1.out hb5) _, blk_new _ _, (Q3.out.below hb5).alloc _, (Q4.out.kept (row := none) (grown_below hb5) (by cases (Value.slice A L.length c).ownBlock <;> simp)).kept (World.grownBy_alloc _ _ none) (by cases (Value.slice A L.length c).ownBlock <;> simp), (Q5.out.below hb5).alloc _, (Q6.out.trans (Keep.of_below hb5)).trans (Keep.of_below (below_alloc (Below.refl _ _) _))⟩ ?_
          obtain ⟨pk, hpk⟩ : ∃ pk, w5.heap.size = pk := ⟨_, rfl⟩
          rw [hpk]
          clear x0 x1 y0 y1 g2 l1 l2 Q1 Q2 Q3 Q4 Q5 Q6 B5 hb5 hpk HNE
          rintro V ⟨q1, q2, q3, q4, q5, q6⟩
          have Q1 := Aside0.mk q1
          have Q2 := Aside0.mk q2
          have Q3 := Aside0.mk q3
          have Q4 := Aside0.mk q4
          have Q5 := Aside0.mk q5
          have Q6 := Aside0.mk q6
          clear q1 q2 q3 q4 q5 q6
          have hnl : n + 64 < maxLen := by omega
          have HNL := Aside0.mk hnl
          clear hnl
          go_upto_region 23 with (first | (go_at_call 24; go_loud (refine (out25_ok g bm mo A c (lo + 1) n L pk #[.int .i64 (mi : Int)] 3 (fun i _ => (i : Int) != (mi : Int)) z _ Q3.out Q4.out Q5.out HL.out hl64 HNL.out h5 Q2.out (fun i x W hc => put1_ok i mi x pk W hc)).mono ?_; rintro en w7 ⟨Ag, Al, cg, cl, n', rfl, b1, b2, b3, b4, b5, b6⟩; rw [outK_ne] at b2 b3 b4; have B2 := Aside0.mk b2; have B3 := Aside0.mk b3; have B4 := Aside0.mk b4; have B5 := Aside0.mk b5; have B6 := Aside0.mk b6; clear b1 b2 b3 b4 b5 b6)))
          have hkl : (L.eraseIdx mi).length ≤ 64 := by rw [List.length_eraseIdx]; split <;> omega
          have hn5 := B5.out
          obtain ⟨KL, hKL⟩ : ∃ KL, L.eraseIdx mi = KL := ⟨_, rfl⟩
          rw [hKL] at B2 B3 B4 HPV hkl
          have HKL := Aside0.mk hkl
          clear hkl
          refine wp_gen (fun V2 => V2.heap[bk]? = some (.cells #[.int .i64 a, .int .i64 b] 51 (0, 0)) ∧ IsB z V2 g bm mo (.slice Al KL.length cl) (lo + 1) ∧ V2.ownsRow z.heap.size 53 3 (.slice Al KL.length cl) KL.length (flat3 KL) ∧ CMap V2 bm n' (fun x y => (cnt KL x y : Int)) ∧ Keep z w V2) ⟨B6.out.far Q1.out (fun e => by
            rcases e with e | e
            · have e1 := Q1.out
              rw [e, Q3.out.1] at e1
              cases e1
            · obtain ⟨o, ho, hc⟩ := CMap.obj Q5.out
              have e1 := Q1.out
              rw [e, ho] at e1
              cases e1
              exact hc _ _ _ rfl), B2.out, B3.out, B4.out, Q6.out.trans (Keep.upd B6.out Q3.out Q5.out h5)⟩ ?_
          clear Q1 Q2 Q3 Q4 Q5 Q6 B2 B3 B4 B5 B6 HNL hKL
          rintro V2 ⟨q1, q2, q3, q4, q5⟩
          have QX := Aside0.mk q1
          have QB := Aside0.mk q2
          have QO := Aside0.mk q3
          have QM := Aside0.mk q4
          have QK := Aside0.mk q5
          clear q1 q2 q3 q4 q5
          rcases own_form QO.out with hw | hw
          · obtain ⟨e1, e2, e3⟩ := hw
            subst e1
            have HK0 : Aside0 (KL = []) := ⟨List.eq_nil_of_length_eq_zero e2⟩
            have QB : Aside0 (IsB z V2 g bm mo (.slice none 0 0) (lo + 1)) := ⟨by have := QB.out; rw [e2, e3] at this; exact this⟩
            clear e2 e3
            have hgV : g < V2.heap.size := blk_lt QB.out.1
            have hb0 : Below V2.heap.size V2 V2.drew := below_drew1 (Below.refl _ _)
            have d1 : V2.drew.cell? ⟨g, 1, none⟩ = some (.slice none 0 0) := (blk_cell QB.out.1 1).trans rfl
            have d2 : V2.drew.cell? ⟨bk, 0, none⟩ = some (.int .i64 a) := (blk_cell QX.out 0).trans rfl
            have d3 : V2.drew.cell? ⟨bk, 1, none⟩ = some (.int .i64 b) := (blk_cell QX.out 1).trans rfl
            have d4 : V2.drew.frozen? ⟨g, 1, none⟩ = false := blk_frozen QB.out.1 1
            have hcv : ∀ U, Below V2.heap.size V2 U → (convert 27 9 (.slice As s.length cs)).run Try.prog U = .ok (.string (strOfNums s)) U := fun U hV => Kd.C_string Try.underlying27 Try.underlying5 Try.underlying9 (HC.out U (QK.out.trans (Keep.of_below hV)))
            obtain ⟨hi53, hz53, hs53, hb53⟩ := HZS.out
            refine region_N (fun U => Below V2.heap.size V2 U ∧ U.cell? ⟨g, 1, none⟩ = some (.slice none 0 0) ∧ U.cell? ⟨bk, 0, none⟩ = some (.int .i64 a) ∧ U.cell? ⟨bk, 1, none⟩ = some (.int .i64 b) ∧ U.frozen? ⟨g, 1, none⟩ = false) 22 (by kernel_rfl) ⟨hb0, d1, d2, d3, d4⟩ (fun hS => ?_)
            clear hb0 d1 d2 d3 d4
            refine takeN (i := 0) (v := ?_) rfl (by kernel_rfl) (by kernel_rfl) (by kernel_rfl) (by kernel_rfl) (fun _ _ _ h => h) (Or.inl ⟨by rfl, ?_⟩) hS ?_
            rotate_left
            · (intro U hSU; (try dsimp only at hSU); go_simp; all_goals (first | done | (with_reducible rfl)))
            (try simp only [Act.put, List.setIfInBounds_toArray, List.set_cons_zero, List.set_cons_succ])
            refine takeN (i := 1) (v := ?_) rfl (by kernel_rfl) (by kernel_rfl) (by kernel_rfl) (by kernel_rfl) (fun _ _ _ h => h) (Or.inl ⟨by rfl, ?_⟩) hS ?_
            rotate_left
            · (intro U hSU; (try dsimp only at hSU); go_simp; all_goals (first | done | (with_reducible rfl)))
            (try simp only [Act.put, List.setIfInBounds_toArray, List.set_cons_zero, List.set_cons_succ])
            refine takeN (i := 2) (v := ?_) rfl (by kernel_rfl) (by kernel_rfl) (by kernel_rfl) (by kernel_rfl) (fun _ _ _ h => h) (Or.inl ⟨by rfl, ?_⟩) hS ?_
            rotate_left
            · (intro U hSU; (try dsimp only at hSU); go_simp; all_goals (first | done | (with_reducible rfl)))
            (try simp only [Act.put, List.setIfInBounds_toArray, List.set_cons_zero, List.set_cons_succ])
            refine takeN (i := 3) (v := ?_) rfl (by kernel_rfl) (by kernel_rfl) (by kernel_rfl) (by kernel_rfl) (fun _ _ _ h => h) (Or.inl ⟨by rfl, ?_⟩) hS ?_
            rotate_left
            · (intro U hSU; (try dsimp only at hSU); go_simp; all_goals (first | done | (with_reducible rfl)))
            (try simp only [Act.put, List.setIfInBounds_toArray, List.set_cons_zero, List.set_cons_succ])
            refine takeN (i := 4) (v := ?_) rfl (by kernel_rfl) (by kernel_rfl) (by kernel_rfl) (by kernel_rfl) (fun _ _ _ h => h) (Or.inl ⟨by rfl, ?_⟩) hS ?_
            rotate_left
            · (intro U hSU; (try dsimp only at hSU); go_simp; all_goals (first | done | (with_reducible rfl)))
            (try simp only [Act.put, List.setIfInBounds_toArray, List.set_cons_zero, List.set_cons_succ])
            refine takeN (i := 5) (v := ?_) rfl (by kernel_rfl) (by kernel_rfl) (by kernel_rfl) (by kernel_rfl) (fun _ _ _ h => h) (Or.inl ⟨by rfl, ?_⟩) hS ?_
            rotate_left
            · (intro U hSU; (try dsimp only at hSU); go_simp; all_goals (first | done | (with_reducible rfl)))
            (try simp only [Act.put, List.setIfInBounds_toArray, List.set_cons_zero, List.set_cons_succ])
            refine takeN (i := 6) (v := ?_) rfl (by kernel_rfl) (by kernel_rfl) (by kernel_rfl) (by kernel_rfl) (fun _ _ _ h => h) (Or.inl ⟨by rfl, ?_⟩) hS ?_
            rotate_left
            · (intro U hSU; (try dsimp only at hSU); go_simp; all_goals (first | done | (with_reducible rfl)))
            (try simp only [Act.put, List.setIfInBounds_toArray, List.set_cons_zero, List.set_cons_succ])
            refine takeN (i := 7) (v := ?_) rfl (by kernel_rfl) (by kernel_rfl) (by kernel_rfl) (by kernel_rfl) (fun _ _ _ h => h) (Or.inl ⟨by rfl, ?_⟩) hS ?_
            rotate_left
            · (intro U hSU; (try dsimp only at hSU); go_simp; all_goals (first | done | (with_reducible rfl)))
            (try simp only [Act.put, List.setIfInBounds_toArray, List.set_cons_zero, List.set_cons_succ])
            refine takeN (i := 8) (v := ?_) rfl (by kernel_rfl) (by kernel_rfl) (by kernel_rfl) (by kernel_rfl) (fun _ _ _ h => h) (Or.inl ⟨by rfl, ?_⟩) hS ?_
            rotate_left
            · (intro U hSU; (try dsimp only at hSU); go_simp; all_goals (first | done | (with_reducible rfl)))
            (try simp only [Act.put, List.setIfInBounds_toArray, List.set_cons_zero, List.set_cons_succ])
            refine takeN (i := 9) (v := ?_) rfl (by kernel_rfl) (by kernel_rfl) (by kernel_rfl) (by kernel_rfl) (fun _ _ _ h => h) (Or.inl ⟨by rfl, ?_⟩) hS ?_
            rotate_left
            · (intro U hSU; (try dsimp only at hSU); go_simp; all_goals (first | done | (with_reducible rfl)))
            (try simp only [Act.put, List.setIfInBounds_toArray, List.set_cons_zero, List.set_cons_succ])
            refine takeN (i := 10) (v := ?_) rfl (by kernel_rfl) (by kernel_rfl) (by kernel_rfl) (by kernel_rfl) (fun _ _ _ h => h) (Or.inl ⟨by rfl, ?_⟩) hS ?_
            rotate_left
            · (intro U hSU; (try dsimp only at hSU); go_simp; all_goals (first | done | (with_reducible rfl)))
            (try simp only [Act.put, List.setIfInBounds_toArray, List.set_cons_zero, List.set_cons_succ])
            refine takeN (i := 11) (v := ?_) rfl (by kernel_rfl) (by kernel_rfl) (by kernel_rfl) (by kernel_rfl) (fun _ _ _ h => h) (Or.inl ⟨by rfl, ?_⟩) hS ?_
            rotate_left
            · (intro U hSU; (try dsimp only at hSU); go_simp; all_goals (first | done | (with_reducible rfl)))
            (try simp only [Act.put, List.setIfInBounds_toArray, List.set_cons_zero, List.set_cons_succ])
            refine takeN (i := 12) (v := ?_) rfl (by kernel_rfl) (by kernel_rfl) (by kernel_rfl) (by kernel_rfl) (fun _ _ _ h => h) (Or.inl ⟨by rfl, ?_⟩) hS ?_
            rotate_left
            · (intro U hSU; (try dsimp only at hSU); go_simp; all_goals (first | done | (with_reducible rfl)))
            (try simp only [Act.put, List.setIfInBounds_toArray, List.set_cons_zero, List.set_cons_succ])
            refine takeN (i := 13) (v := ?_) rfl (by kernel_rfl) (by kernel_rfl) (by kernel_rfl) (by kernel_rfl) (fun _ _ _ h => h) (Or.inl ⟨by rfl, ?_⟩) hS ?_
            rotate_left
            · (intro U hSU; (try dsimp only at hSU); go_simp; all_goals (first | done | (with_reducible rfl)))
            (try simp only [Act.put, List.setIfInBounds_toArray, List.set_cons_zero, List.set_cons_succ])
            refine takeN (i := 14) (v := ?_) rfl (by kernel_rfl) (by kernel_rfl) (by kernel_rfl) (by kernel_rfl) (fun _ _ _ h => h) (Or.inl ⟨by rfl, ?_⟩) hS ?_
            rotate_left
            · (intro U hSU; (try dsimp only at hSU); go_simp; all_goals (first | done | (with_reducible rfl)))
            (try simp only [Act.put, List.setIfInBounds_toArray, List.set_cons_zero, List.set_cons_succ])
            refine takeN (i := 15) (v := ?_) rfl (by kernel_rfl) (by kernel_rfl) (by kernel_rfl) (by kernel_rfl) (fun _ _ _ h => h) (Or.inl ⟨by rfl, ?_⟩) hS ?_
            rotate_left
            · (intro U hSU; (try dsimp only at hSU); go_simp; all_goals (first | done | (with_reducible rfl)))
            (try simp only [Act.put, List.setIfInBounds_toArray, List.set_cons_zero, List.set_cons_succ])
            refine takeN (i := 16) (v := ?_) rfl (by kernel_rfl) (by kernel_rfl) (by kernel_rfl) (by kernel_rfl) (fun _ _ _ h => h) (Or.inl ⟨by rfl, ?_⟩) hS ?_
            rotate_left
            · (intro U hSU; (try dsimp only at hSU); go_simp; all_goals (first | done | (with_reducible rfl)))
            (try simp only [Act.put, List.setIfInBounds_toArray, List.set_cons_zero, List.set_cons_succ])
            refine takeN (i := 17) (v := ?_) rfl (by kernel_rfl) (by kernel_rfl) (by kernel_rfl) (by kernel_rfl) (fun _ _ _ h => h) (Or.inl ⟨by rfl, ?_⟩) hS ?_
            rotate_left
            · (intro U hSU; (try dsimp only at hSU); go_simp; all_goals (first | done | (with_reducible rfl)))
            (try simp only [Act.put, List.setIfInBounds_toArray, List.set_cons_zero, List.set_cons_succ])
            refine takeN (i := 18) (v := ?_) rfl (by kernel_rfl) (by kernel_rfl) (by kernel_rfl) (by kernel_rfl) (fun _ _ _ h => h) (Or.inl ⟨by rfl, ?_⟩) hS ?_
            rotate_left
            · (intro U hSU; (try dsimp only at hSU); go_simp; all_goals (first | done | (with_reducible rfl)))
            (try simp only [Act.put, List.setIfInBounds_toArray, List.set_cons_zero, List.set_cons_succ])
            refine takeN (i := 19) (v := ?_) rfl (by kernel_rfl) (by kernel_rfl) (by kernel_rfl) (by kernel_rfl) (fun _ _ _ h => h) (Or.inl ⟨by rfl, ?_⟩) hS ?_
            rotate_left
            · (intro U hSU; (try dsimp only at hSU); go_simp; all_goals (first | done | (with_reducible rfl)))
            (try simp only [Act.put, List.setIfInBounds_toArray, List.set_cons_zero, List.set_cons_succ])
            refine oneN (i := 20) (by kernel_rfl) rfl (fun K hK => ?_)
            go_simp
            refine hK _ _ (fun _ => keepS hS (below_alloc (Below.refl _ _) _)) ?_
            clear hK K
            (try simp only [Act.put, List.setIfInBounds_toArray, List.set_cons_zero, List.set_cons_succ])
            refine oneN (i := 21) (by kernel_rfl) rfl (fun K hK => ?_)
            have hklA := HKL.out
            refine step_append_grows rfl (.tmp 100) (.tmp 105) 36 rfl 53 i53 _ 3 32 Try.underlying36 hi53 hz53 hs53 hb53 rfl (by decide) none 0 0 [] rfl (fun _ => ⟨rfl, rfl⟩) rfl (fun b e => by cases e) ⟨V2.heap.size, 0, none⟩ 1 1 [.int .i64 a, .int .i64 b, .string (strOfNums s)] rfl rfl (cells_new V2.drew _ _) (by simp [Value.oneCell']) (by omega) (by unfold maxLen; omega) (by omega) ?_
            intro v' w6 hown hgrow
            obtain ⟨Ap, cq, rfl⟩ := own_slice2 hown
            have hbw : Below (World.alloc V2.drew (.cells #[.int .i64 a, .int .i64 b, .string (strOfNums s)] 53)).heap.size (World.alloc V2.drew (.cells #[.int .i64 a, .int .i64 b, .string (strOfNums s)] 53)) w6 := ⟨hgrow.os, hgrow.tape, hgrow.output, hgrow.size, fun i hi => hgrow.block i hi (by simp)⟩
            have hS2 := keepS hS (below_alloc (w := V2.drew) (Below.refl _ _) (.cells #[.int .i64 a, .int .i64 b, .string (strOfNums s)] 53))
            have hS3 := keepS hS2 hbw
            refine hK _ _ (fun _ => hS3) ?_
            clear hK K hS hS2
            have O6 := Aside0.mk hown
            have B6 := Aside0.mk hbw
            clear hown hgrow hbw
            obtain ⟨t1, t2, t3, t4, t5⟩ := hS3
            (try simp only [Act.put, List.setIfInBounds_toArray, List.set_cons_zero, List.set_cons_succ])
            refine tailN2 22 (by kernel_rfl) (Nat.le_refl _) (by decide) (by kernel_rfl) ?_
            simp only [List.drop_succ_cons, List.drop_zero]
            go_upto_region 24 with (fail)
            obtain ⟨hbw0, hS0⟩ : ∃ _ : Below V2.heap.size V2 w6, True := ⟨below_step (below_alloc (below_drew1 (Below.refl V2.heap.size V2)) (.cells #[.int .i64 a, .int .i64 b, .string (strOfNums s)] 53)) B6.out, trivial⟩
            have hw6B := QB.out.below hbw0
            refine wp_gen (fun V4 => V4.heap[bk]? = some (.cells #[.int .i64 a, .int .i64 b] 51 (0, 0)) ∧ IsB z V4 g bm mo (.slice Ap 1 cq) (lo + 1) ∧ V4.ownsRow z.heap.size 53 3 (.slice Ap 1 cq) 1 ([] ++ [.int .i64 a, .int .i64 b, .string (strOfNums s)]) ∧ CMap V4 bm n' (fun x y => (cnt KL x y : Int)) ∧ Keep z w V4) ⟨blk_far (blk_below QX.out hbw0) (fun e => by have e1 := blk_below QX.out hbw0; rw [show bk = g from e, hw6B.1] at e1; cases e1) _, hw6B.set_1 _, Go.Joins.ownsRow_le (O6.out.kept (grownBy_setC w6 ⟨g, 1, none⟩ _) (Or.inr (own_off O6.out hw6B.1 (by decide)))) (by have := QK.out.size; have := HZW.out; simp; omega), (QM.out.below hbw0).kept (grownBy_setC w6 ⟨g, 1, none⟩ _) (fun e => HBG.out (by cases e; rfl)), (QK.out.trans (Keep.of_below hbw0)).trans (Keep.grown (grownBy_setC w6 ⟨g, 1, none⟩ _) (fun r er => by cases er; exact ⟨hw6B.2, _, hw6B.1, kind39 _⟩))⟩ ?_
            clear t1 t2 t3 t4 t5 O6 B6 hbw0 hS0 hw6B hcv QX QB QO QM QK hgV 
            rintro V4 ⟨q1, q2, q3, q4, q5⟩
            have QX := Aside0.mk q1
            have QB := Aside0.mk q2
            have QO := Aside0.mk q3
            have QM := Aside0.mk q4
            have QK := Aside0.mk q5
            have x0 : V4.cell? ⟨bk, 0, none⟩ = some (.int .i64 a) := (blk_cell q1 0).trans rfl
            have x1 : V4.cell? ⟨bk, 1, none⟩ = some (.int .i64 b) := (blk_cell q1 1).trans rfl
            have g2 : V4.cell? ⟨g, 2, none⟩ = some (.map (some bm)) := (blk_cell q2.1 2).trans rfl
            obtain ⟨c1, hc1⟩ : ∃ c1, cnt KL a b = c1 := ⟨_, rfl⟩
            have hc1b : c1 ≤ 64 := by have := cnt_le KL a b; have := HKL.out; omega
            have l1 : (Instr.lookup 37 (.map (some bm)) (.agg #[.int .i64 a, .int .i64 b]) false).run Try.prog V4.drew = .ok (.int .i64 (c1 : Int)) V4.drew := by
              have := CMap.look (w := V4.drew) (a := a) (b := b) q4 (wf64 (by omega) (by omega)) (wf64 (by omega) (by omega))
              rw [hc1] at this
              exact this
            obtain ⟨v0, st, w1, hent, hmid, hst⟩ := CMap.entry2 (w := V4.drew) (a := a) (b := b) q4 (by unfold maxLen; omega) (wf64 (by omega) (by omega)) (wf64 (by omega) (by omega))
            obtain ⟨w8, hes, m8, t8⟩ := hst ((c1 : Int) + 1) (wf64 (by omega) (by omega))
            have l2 : (Instr.lookup 37 (.map (some bm)) (.agg #[.int .i64 a, .int .i64 b]) false).run Try.prog w1 = .ok (.int .i64 (c1 : Int)) w1 := by
              rw [hc1] at hmid
              exact hmid
            unfold kv at hent
            replace hes : (Instr.entryStore 37 (.map (some bm)) (.int .i64 (st : Int)) (.int .i64 ((c1 : Int) + 1))).run Try.prog w1 = .ok () w8 := hes
            have hm8 : setM (fun x y => (cnt KL x y : Int)) a b ((c1 : Int) + 1) = fun x y => (cnt (KL ++ [(a, b, s)]) x y : Int) := by rw [← hc1]; exact step_put KL a b s
            rw [hm8] at m8
            have M8 := Aside0.mk m8
            have T8 := Aside0.mk t8
            clear q1 q2 q3 q4 q5 hst m8 t8 hmid hm8 hc1
            go_region
            all_goals go_wp2
            go_ret
            have hgr : V4.drew.grownBy w8 (some bm) := T8.out.grown
            obtain ⟨o, ho, hc⟩ := CMap.obj QM.out
            have hlen := putS_len mo L lo a b s h8 HL.out h7
            have hoks := putS_ok mo L lo a b s HSB.out HL.out
            rw [HPV.out] at hlen hoks ⊢
            dsimp only at hlen hoks ⊢
            refine ⟨rfl, ⟨bm, Ap, cq, n' + 1, ?_, ?_, M8.out, by omega, h5, hoks, hlen, h8, h9, by omega, by omega⟩, QK.out.trans ((Keep.of_below (below_drew1 (Below.refl _ _))).trans (Keep.grown (w := V4.drew) hgr (fun r er => by cases er; exact ⟨h5, o, ho, Or.inl hc⟩)))⟩
            · have hB := IsB.kept (w := V4.drew) QB.out hgr (fun e => HBG.out (by cases e; rfl))
              rw [List.length_append]
              rw [HK0.out]
              exact hB
            · have hO := World.ownsRow.kept (w := V4.drew) QO.out hgr (Or.inr (own_offm QO.out ho hc))
              rw [List.length_append, flat3_snoc]
              rw [HK0.out]
              exact hO
          · obtain ⟨gk, e1, hkc, hcells⟩ := hw
            subst e1
            have hgV : g < V2.heap.size := blk_lt QB.out.1
            have hb0 : Below V2.heap.size V2 V2.drew := below_drew1 (Below.refl _ _)
            have d1 : V2.drew.cell? ⟨g, 1, none⟩ = some (.slice (some ⟨gk, 0, none⟩) KL.length cl) := (blk_cell QB.out.1 1).trans rfl
            have d2 : V2.drew.cell? ⟨bk, 0, none⟩ = some (.int .i64 a) := (blk_cell QX.out 0).trans rfl
            have d3 : V2.drew.cell? ⟨bk, 1, none⟩ = some (.int .i64 b) := (blk_cell QX.out 1).trans rfl
            have d4 : V2.drew.frozen? ⟨g, 1, none⟩ = false := blk_frozen QB.out.1 1
            have hcv : ∀ U, Below V2.heap.size V2 U → (convert 27 9 (.slice As s.length cs)).run Try.prog U = .ok (.string (strOfNums s)) U := fun U hV => Kd.C_string Try.underlying27 Try.underlying5 Try.underlying9 (HC.out U (QK.out.trans (Keep.of_below hV)))
            obtain ⟨hi53, hz53, hs53, hb53⟩ := HZS.out
            refine region_N (fun U => Below V2.heap.size V2 U ∧ U.cell? ⟨g, 1, none⟩ = some (.slice (some ⟨gk, 0, none⟩) KL.length cl) ∧ U.cell? ⟨bk, 0, none⟩ = some (.int .i64 a) ∧ U.cell? ⟨bk, 1, none⟩ = some (.int .i64 b) ∧ U.frozen? ⟨g, 1, none⟩ = false) 22 (by kernel_rfl) ⟨hb0, d1, d2, d3, d4⟩ (fun hS => ?_)
            clear hb0 d1 d2 d3 d4
            refine takeN (i := 0) (v := ?_) rfl (by kernel_rfl) (by kernel_rfl) (by kernel_rfl) (by kernel_rfl) (fun _ _ _ h => h) (Or.inl ⟨by rfl, ?_⟩) hS ?_
            rotate_left
            · (intro U hSU; (try dsimp only at hSU); go_simp; all_goals (first | done | (with_reducible rfl)))
            (try simp only [Act.put, List.setIfInBounds_toArray, List.set_cons_zero, List.set_cons_succ])
            refine takeN (i := 1) (v := ?_) rfl (by kernel_rfl) (by kernel_rfl) (by kernel_rfl) (by kernel_rfl) (fun _ _ _ h => h) (Or.inl ⟨by rfl, ?_⟩) hS ?_
            rotate_left
            · (intro U hSU; (try dsimp only at hSU); go_simp; all_goals (first | done | (with_reducible rfl)))
            (try simp only [Act.put, List.setIfInBounds_toArray, List.set_cons_zero, List.set_cons_succ])
            refine takeN (i := 2) (v := ?_) rfl (by kernel_rfl) (by kernel_rfl) (by kernel_rfl) (by kernel_rfl) (fun _ _ _ h => h) (Or.inl ⟨by rfl, ?_⟩) hS ?_
            rotate_left
            · (intro U hSU; (try dsimp only at hSU); go_simp; all_goals (first | done | (with_reducible rfl)))
            (try simp only [Act.put, List.setIfInBounds_toArray, List.set_cons_zero, List.set_cons_succ])
            refine takeN (i := 3) (v := ?_) rfl (by kernel_rfl) (by kernel_rfl) (by kernel_rfl) (by kernel_rfl) (fun _ _ _ h => h) (Or.inl ⟨by rfl, ?_⟩) hS ?_
            rotate_left
            · (intro U hSU; (try dsimp only at hSU); go_simp; all_goals (first | done | (with_reducible rfl)))
            (try simp only [Act.put, List.setIfInBounds_toArray, List.set_cons_zero, List.set_cons_succ])
            refine takeN (i := 4) (v := ?_) rfl (by kernel_rfl) (by kernel_rfl) (by kernel_rfl) (by kernel_rfl) (fun _ _ _ h => h) (Or.inl ⟨by rfl, ?_⟩) hS ?_
            rotate_left
            · (intro U hSU; (try dsimp only at hSU); go_simp; all_goals (first | done | (with_reducible rfl)))
            (try simp only [Act.put, List.setIfInBounds_toArray, List.set_cons_zero, List.set_cons_succ])
            refine takeN (i := 5) (v := ?_) rfl (by kernel_rfl) (by kernel_rfl) (by kernel_rfl) (by kernel_rfl) (fun _ _ _ h => h) (Or.inl ⟨by rfl, ?_⟩) hS ?_
            rotate_left
            · (intro U hSU; (try dsimp only at hSU); go_simp; all_goals (first | done | (with_reducible rfl)))
            (try simp only [Act.put, List.setIfInBounds_toArray, List.set_cons_zero, List.set_cons_succ])
            refine takeN (i := 6) (v := ?_) rfl (by kernel_rfl) (by kernel_rfl) (by kernel_rfl) (by kernel_rfl) (fun _ _ _ h => h) (Or.inl ⟨by rfl, ?_⟩) hS ?_
            rotate_left
            · (intro U hSU; (try dsimp only at hSU); go_simp; all_goals (first | done | (with_reducible rfl)))
            (try simp only [Act.put, List.setIfInBounds_toArray, List.set_cons_zero, List.set_cons_succ])
            refine takeN (i := 7) (v := ?_) rfl (by kernel_rfl) (by kernel_rfl) (by kernel_rfl) (by kernel_rfl) (fun _ _ _ h => h) (Or.inl ⟨by rfl, ?_⟩) hS ?_
            rotate_left
            · (intro U hSU; (try dsimp only at hSU); go_simp; all_goals (first | done | (with_reducible rfl)))
            (try simp only [Act.put, List.setIfInBounds_toArray, List.set_cons_zero, List.set_cons_succ])
            refine takeN (i := 8) (v := ?_) rfl (by kernel_rfl) (by kernel_rfl) (by kernel_rfl) (by kernel_rfl) (fun _ _ _ h => h) (Or.inl ⟨by rfl, ?_⟩) hS ?_
            rotate_left
            · (intro U hSU; (try dsimp only at hSU); go_simp; all_goals (first | done | (with_reducible rfl)))
            (try simp only [Act.put, List.setIfInBounds_toArray, List.set_cons_zero, List.set_cons_succ])
            refine takeN (i := 9) (v := ?_) rfl (by kernel_rfl) (by kernel_rfl) (by kernel_rfl) (by kernel_rfl) (fun _ _ _ h => h) (Or.inl ⟨by rfl, ?_⟩) hS ?_
            rotate_left
            · (intro U hSU; (try dsimp only at hSU); go_simp; all_goals (first | done | (with_reducible rfl)))
            (try simp only [Act.put, List.setIfInBounds_toArray, List.set_cons_zero, List.set_cons_succ])
            refine takeN (i := 10) (v := ?_) rfl (by kernel_rfl) (by kernel_rfl) (by kernel_rfl) (by kernel_rfl) (fun _ _ _ h => h) (Or.inl ⟨by rfl, ?_⟩) hS ?_
            rotate_left
            · (intro U hSU; (try dsimp only at hSU); go_simp; all_goals (first | done | (with_reducible rfl)))
            (try simp only [Act.put, List.setIfInBounds_toArray, List.set_cons_zero, List.set_cons_succ])
            refine takeN (i := 11) (v := ?_) rfl (by kernel_rfl) (by kernel_rfl) (by kernel_rfl) (by kernel_rfl) (fun _ _ _ h => h) (Or.inl ⟨by rfl, ?_⟩) hS ?_
            rotate_left
            · (intro U hSU; (try dsimp only at hSU); go_simp; all_goals (first | done | (with_reducible rfl)))
            (try simp only [Act.put, List.setIfInBounds_toArray, List.set_cons_zero, List.set_cons_succ])
            refine takeN (i := 12) (v := ?_) rfl (by kernel_rfl) (by kernel_rfl) (by kernel_rfl) (by kernel_rfl) (fun _ _ _ h => h) (Or.inl ⟨by rfl, ?_⟩) hS ?_
            rotate_left
            · (intro U hSU; (try dsimp only at hSU); go_simp; all_goals (first | done | (with_reducible rfl)))
            (try simp only [Act.put, List.setIfInBounds_toArray, List.set_cons_zero, List.set_cons_succ])
            refine takeN (i := 13) (v := ?_) rfl (by kernel_rfl) (by kernel_rfl) (by kernel_rfl) (by kernel_rfl) (fun _ _ _ h => h) (Or.inl ⟨by rfl, ?_⟩) hS ?_
            rotate_left
            · (intro U hSU; (try dsimp only at hSU); go_simp; all_goals (first | done | (with_reducible rfl)))
            (try simp only [Act.put, List.setIfInBounds_toArray, List.set_cons_zero, List.set_cons_succ])
            refine takeN (i := 14) (v := ?_) rfl (by kernel_rfl) (by kernel_rfl) (by kernel_rfl) (by kernel_rfl) (fun _ _ _ h => h) (Or.inl ⟨by rfl, ?_⟩) hS ?_
            rotate_left
            · (intro U hSU; (try dsimp only at hSU); go_simp; all_goals (first | done | (with_reducible rfl)))
            (try simp only [Act.put, List.setIfInBounds_toArray, List.set_cons_zero, List.set_cons_succ])
            refine takeN (i := 15) (v := ?_) rfl (by kernel_rfl) (by kernel_rfl) (by kernel_rfl) (by kernel_rfl) (fun _ _ _ h => h) (Or.inl ⟨by rfl, ?_⟩) hS ?_
            rotate_left
            · (intro U hSU; (try dsimp only at hSU); go_simp; all_goals (first | done | (with_reducible rfl)))
            (try simp only [Act.put, List.setIfInBounds_toArray, List.set_cons_zero, List.set_cons_succ])
            refine takeN (i := 16) (v := ?_) rfl (by kernel_rfl) (by kernel_rfl) (by kernel_rfl) (by kernel_rfl) (fun _ _ _ h => h) (Or.inl ⟨by rfl, ?_⟩) hS ?_
            rotate_left
            · (intro U hSU; (try dsimp only at hSU); go_simp; all_goals (first | done | (with_reducible rfl)))
            (try simp only [Act.put, List.setIfInBounds_toArray, List.set_cons_zero, List.set_cons_succ])
            refine takeN (i := 17) (v := ?_) rfl (by kernel_rfl) (by kernel_rfl) (by kernel_rfl) (by kernel_rfl) (fun _ _ _ h => h) (Or.inl ⟨by rfl, ?_⟩) hS ?_
            rotate_left
            · (intro U hSU; (try dsimp only at hSU); go_simp; all_goals (first | done | (with_reducible rfl)))
            (try simp only [Act.put, List.setIfInBounds_toArray, List.set_cons_zero, List.set_cons_succ])
            refine takeN (i := 18) (v := ?_) rfl (by kernel_rfl) (by kernel_rfl) (by kernel_rfl) (by kernel_rfl) (fun _ _ _ h => h) (Or.inl ⟨by rfl, ?_⟩) hS ?_
            rotate_left
            · (intro U hSU; (try dsimp only at hSU); go_simp; all_goals (first | done | (with_reducible rfl)))
            (try simp only [Act.put, List.setIfInBounds_toArray, List.set_cons_zero, List.set_cons_succ])
            refine takeN (i := 19) (v := ?_) rfl (by kernel_rfl) (by kernel_rfl) (by kernel_rfl) (by kernel_rfl) (fun _ _ _ h => h) (Or.inl ⟨by rfl, ?_⟩) hS ?_
            rotate_left
            · (intro U hSU; (try dsimp only at hSU); go_simp; all_goals (first | done | (with_reducible rfl)))
            (try simp only [Act.put, List.setIfInBounds_toArray, List.set_cons_zero, List.set_cons_succ])
            refine oneN (i := 20) (by kernel_rfl) rfl (fun K hK => ?_)
            go_simp
            refine hK _ _ (fun _ => keepS hS (below_alloc (Below.refl _ _) _)) ?_
            clear hK K
            (try simp only [Act.put, List.setIfInBounds_toArray, List.set_cons_zero, List.set_cons_succ])
            refine oneN (i := 21) (by kernel_rfl) rfl (fun K hK => ?_)
            have hklA := HKL.out
            refine step_append_grows rfl (.tmp 100) (.tmp 105) 36 rfl 53 i53 _ 3 32 Try.underlying36 hi53 hz53 hs53 hb53 rfl (by decide) (some ⟨gk, 0, none⟩) KL.length KL.length (flat3 KL) rfl (fun e => by cases e) QO.out.1 (fun b e j u hj => by cases e; exact cell_bel (w := V2) (w' := World.alloc V2.drew (.cells #[.int .i64 a, .int .i64 b, .string (strOfNums s)] 53)) (below_alloc (below_drew1 (Below.refl _ _)) _) (hcells j u hj)) ⟨V2.heap.size, 0, none⟩ 1 1 [.int .i64 a, .int .i64 b, .string (strOfNums s)] rfl rfl (cells_new V2.drew _ _) (by simp [Value.oneCell']) (by omega) (by unfold maxLen; omega) (by omega) ?_
            intro v' w6 hown hgrow
            obtain ⟨Ap, cq, rfl⟩ := own_slice2 hown
            have hbw : Below (World.alloc V2.drew (.cells #[.int .i64 a, .int .i64 b, .string (strOfNums s)] 53)).heap.size (World.alloc V2.drew (.cells #[.int .i64 a, .int .i64 b, .string (strOfNums s)] 53)) w6 := ⟨hgrow.os, hgrow.tape, hgrow.output, hgrow.size, fun i hi => hgrow.block i hi (by simp)⟩
            have hS2 := keepS hS (below_alloc (w := V2.drew) (Below.refl _ _) (.cells #[.int .i64 a, .int .i64 b, .string (strOfNums s)] 53))
            have hS3 := keepS hS2 hbw
            refine hK _ _ (fun _ => hS3) ?_
            clear hK K hS hS2
            have O6 := Aside0.mk hown
            have B6 := Aside0.mk hbw
            clear hown hgrow hbw
            obtain ⟨t1, t2, t3, t4, t5⟩ := hS3
            (try simp only [Act.put, List.setIfInBounds_toArray, List.set_cons_zero, List.set_cons_succ])
            refine tailN2 22 (by kernel_rfl) (Nat.le_refl _) (by decide) (by kernel_rfl) ?_
            simp only [List.drop_succ_cons, List.drop_zero]
            go_upto_region 24 with (fail)
            obtain ⟨hbw0, hS0⟩ : ∃ _ : Below V2.heap.size V2 w6, True := ⟨below_step (below_alloc (below_drew1 (Below.refl V2.heap.size V2)) (.cells #[.int .i64 a, .int .i64 b, .string (strOfNums s)] 53)) B6.out, trivial⟩
            have hw6B := QB.out.below hbw0
            refine wp_gen (fun V4 => V4.heap[bk]? = some (.cells #[.int .i64 a, .int .i64 b] 51 (0, 0)) ∧ IsB z V4 g bm mo (.slice Ap (KL.length + 1) cq) (lo + 1) ∧ V4.ownsRow z.heap.size 53 3 (.slice Ap (KL.length + 1) cq) (KL.length + 1) ((flat3 KL) ++ [.int .i64 a, .int .i64 b, .string (strOfNums s)]) ∧ CMap V4 bm n' (fun x y => (cnt KL x y : Int)) ∧ Keep z w V4) ⟨blk_far (blk_below QX.out hbw0) (fun e => by have e1 := blk_below QX.out hbw0; rw [show bk = g from e, hw6B.1] at e1; cases e1) _, hw6B.set_1 _, Go.Joins.ownsRow_le (O6.out.kept (grownBy_setC w6 ⟨g, 1, none⟩ _) (Or.inr (own_off O6.out hw6B.1 (by decide)))) (by have := QK.out.size; have := HZW.out; simp; omega), (QM.out.below hbw0).kept (grownBy_setC w6 ⟨g, 1, none⟩ _) (fun e => HBG.out (by cases e; rfl)), (QK.out.trans (Keep.of_below hbw0)).trans (Keep.grown (grownBy_setC w6 ⟨g, 1, none⟩ _) (fun r er => by cases er; exact ⟨hw6B.2, _, hw6B.1, kind39 _⟩))⟩ ?_
            clear t1 t2 t3 t4 t5 O6 B6 hbw0 hS0 hw6B hcv QX QB QO QM QK hgV hkc hcells
            rintro V4 ⟨q1, q2, q3, q4, q5⟩
            have QX := Aside0.mk q1
            have QB := Aside0.mk q2
            have QO := Aside0.mk q3
            have QM := Aside0.mk q4
            have QK := Aside0.mk q5
            have x0 : V4.cell? ⟨bk, 0, none⟩ = some (.int .i64 a) := (blk_cell q1 0).trans rfl
            have x1 : V4.cell? ⟨bk, 1, none⟩ = some (.int .i64 b) := (blk_cell q1 1).trans rfl
            have g2 : V4.cell? ⟨g, 2, none⟩ = some (.map (some bm)) := (blk_cell q2.1 2).trans rfl
            obtain ⟨c1, hc1⟩ : ∃ c1, cnt KL a b = c1 := ⟨_, rfl⟩
            have hc1b : c1 ≤ 64 := by have := cnt_le KL a b; have := HKL.out; omega
            have l1 : (Instr.lookup 37 (.map (some bm)) (.agg #[.int .i64 a, .int .i64 b]) false).run Try.prog V4.drew = .ok (.int .i64 (c1 : Int)) V4.drew := by
              have := CMap.look (w := V4.drew) (a := a) (b := b) q4 (wf64 (by omega) (by omega)) (wf64 (by omega) (by omega))
              rw [hc1] at this
              exact this
            obtain ⟨v0, st, w1, hent, hmid, hst⟩ := CMap.entry2 (w := V4.drew) (a := a) (b := b) q4 (by unfold maxLen; omega) (wf64 (by omega) (by omega)) (wf64 (by omega) (by omega))
            obtain ⟨w8, hes, m8, t8⟩ := hst ((c1 : Int) + 1) (wf64 (by omega) (by omega))
            have l2 : (Instr.lookup 37 (.map (some bm)) (.agg #[.int .i64 a, .int .i64 b]) false).run Try.prog w1 = .ok (.int .i64 (c1 : Int)) w1 := by
              rw [hc1] at hmid
              exact hmid
            unfold kv at hent
            replace hes : (Instr.entryStore 37 (.map (some bm)) (.int .i64 (st : Int)) (.int .i64 ((c1 : Int) + 1))).run Try.prog w1 = .ok () w8 := hes
            have hm8 : setM (fun x y => (cnt KL x y : Int)) a b ((c1 : Int) + 1) = fun x y => (cnt (KL ++ [(a, b, s)]) x y : Int) := by rw [← hc1]; exact step_put KL a b s
            rw [hm8] at m8
            have M8 := Aside0.mk m8
            have T8 := Aside0.mk t8
            clear q1 q2 q3 q4 q5 hst m8 t8 hmid hm8 hc1
            go_region
            all_goals go_wp2
            go_ret
            have hgr : V4.drew.grownBy w8 (some bm) := T8.out.grown
            obtain ⟨o, ho, hc⟩ := CMap.obj QM.out
            have hlen := putS_len mo L lo a b s h8 HL.out h7
            have hoks := putS_ok mo L lo a b s HSB.out HL.out
            rw [HPV.out] at hlen hoks ⊢
            dsimp only at hlen hoks ⊢
            refine ⟨rfl, ⟨bm, Ap, cq, n' + 1, ?_, ?_, M8.out, by omega, h5, hoks, hlen, h8, h9, by omega, by omega⟩, QK.out.trans ((Keep.of_below (below_drew1 (Below.refl _ _))).trans (Keep.grown (w := V4.drew) hgr (fun r er => by cases er; exact ⟨h5, o, ho, Or.inl hc⟩)))⟩
            · have hB := IsB.kept (w := V4.drew) QB.out hgr (fun e => HBG.out (by cases e; rfl))
              rw [List.length_append]
              skip
              exact hB
            · have hO := World.ownsRow.kept (w := V4.drew) QO.out hgr (Or.inr (own_offm QO.out ho hc))
              rw [List.length_append, flat3_snoc]
              skip
              exact hO
      · have hfb : decide (mo ≤ (L.length : Int)) = false := decide_eq_false hf
        go_quiet (fail)
        go_upto_region 23 with (fail)
        have hpv := HP.out
        rw [if_neg hf] at hpv
        have HPV := Aside0.mk hpv
        have HKL := Aside0.mk hl64
        clear hpv
        refine wp_gen (fun V => V.heap[bk]? = some (.cells #[.int .i64 a, .int .i64 b] 51 (0, 0)) ∧ IsB z V g bm mo (.slice A L.length c) lo ∧ V.ownsRow z.heap.size 53 3 (.slice A L.length c) L.length (flat3 L) ∧ CMap V bm n (fun x y => (cnt L x y : Int)) ∧ Keep z w V) ⟨blk_drewN Q1.out _, HI.out.below (pw_below_drewN Q2.out _), HR.out.kept (row := none) (grown_below (pw_below_drewN Q2.out _)) (by cases (Value.slice A L.length c).ownBlock <;> simp), HM.out.below (pw_below_drewN Q2.out _), Keep.of_below (pw_below_drewN Q2.out _)⟩ ?_
        rintro V ⟨q1, q2, q3, q4, q5⟩
        have QX := Aside0.mk q1
        have QB := Aside0.mk q2
        have QO := Aside0.mk q3
        have QM := Aside0.mk q4
        have QK := Aside0.mk q5
        clear q1 q2 q3 q4 q5
        clear d0 d1 Q1 Q2
        rcases own_form QO.out with hw | hw
        · obtain ⟨e1, e2, e3⟩ := hw
          subst e1
          have HK0 : Aside0 (L = []) := ⟨List.eq_nil_of_length_eq_zero e2⟩
          have QB : Aside0 (IsB z V g bm mo (.slice none 0 0) lo) := ⟨by have := QB.out; rw [e2, e3] at this; exact this⟩
          clear e2 e3
          have hgV : g < V.heap.size := blk_lt QB.out.1
          have hb0 : Below V.heap.size V V.drew := below_drew1 (Below.refl _ _)
          have d1 : V.drew.cell? ⟨g, 1, none⟩ = some (.slice none 0 0) := (blk_cell QB.out.1 1).trans rfl
          have d2 : V.drew.cell? ⟨bk, 0, none⟩ = some (.int .i64 a) := (blk_cell QX.out 0).trans rfl
          have d3 : V.drew.cell? ⟨bk, 1, none⟩ = some (.int .i64 b) := (blk_cell QX.out 1).trans rfl
          have d4 : V.drew.frozen? ⟨g, 1, none⟩ = false := blk_frozen QB.out.1 1
          have hcv : ∀ U, Below V.heap.size V U → (convert 27 9 (.slice As s.length cs)).run Try.prog U = .ok (.string (strOfNums s)) U := fun U hV => Kd.C_string Try.underlying27 Try.underlying5 Try.underlying9 (HC.out U (QK.out.trans (Keep.of_below hV)))
          obtain ⟨hi53, hz53, hs53, hb53⟩ := HZS.out
          refine region_N (fun U => Below V.heap.size V U ∧ U.cell? ⟨g, 1, none⟩ = some (.slice none 0 0) ∧ U.cell? ⟨bk, 0, none⟩ = some (.int .i64 a) ∧ U.cell? ⟨bk, 1, none⟩ = some (.int .i64 b) ∧ U.frozen? ⟨g, 1, none⟩ = false) 22 (by kernel_rfl) ⟨hb0, d1, d2, d3, d4⟩ (fun hS => ?_)
          clear hb0 d1 d2 d3 d4
          refine takeN (i := 0) (v := ?_) rfl (by kernel_rfl) (by kernel_rfl) (by kernel_rfl) (by kernel_rfl) (fun _ _ _ h => h) (Or.inl ⟨by rfl, ?_⟩) hS ?_
          rotate_left
          · (intro U hSU; (try dsimp only at hSU); go_simp; all_goals (first | done | (with_reducible rfl)))
          (try simp only [Act.put, List.setIfInBounds_toArray, List.set_cons_zero, List.set_cons_succ])
          refine takeN (i := 1) (v := ?_) rfl (by kernel_rfl) (by kernel_rfl) (by kernel_rfl) (by kernel_rfl) (fun _ _ _ h => h) (Or.inl ⟨by rfl, ?_⟩) hS ?_
          rotate_left
          · (intro U hSU; (try dsimp only at hSU); go_simp; all_goals (first | done | (with_reducible rfl)))
          (try simp only [Act.put, List.setIfInBounds_toArray, List.set_cons_zero, List.set_cons_succ])
          refine takeN (i := 2) (v := ?_) rfl (by kernel_rfl) (by kernel_rfl) (by kernel_rfl) (by kernel_rfl) (fun _ _ _ h => h) (Or.inl ⟨by rfl, ?_⟩) hS ?_
          rotate_left
          · (intro U hSU; (try dsimp only at hSU); go_simp; all_goals (first | done | (with_reducible rfl)))
          (try simp only [Act.put, List.setIfInBounds_toArray, List.set_cons_zero, List.set_cons_succ])
          refine takeN (i := 3) (v := ?_) rfl (by kernel_rfl) (by kernel_rfl) (by kernel_rfl) (by kernel_rfl) (fun _ _ _ h => h) (Or.inl ⟨by rfl, ?_⟩) hS ?_
          rotate_left
          · (intro U hSU; (try dsimp only at hSU); go_simp; all_goals (first | done | (with_reducible rfl)))
          (try simp only [Act.put, List.setIfInBounds_toArray, List.set_cons_zero, List.set_cons_succ])
          refine takeN (i := 4) (v := ?_) rfl (by kernel_rfl) (by kernel_rfl) (by kernel_rfl) (by kernel_rfl) (fun _ _ _ h => h) (Or.inl ⟨by rfl, ?_⟩) hS ?_
          rotate_left
          · (intro U hSU; (try dsimp only at hSU); go_simp; all_goals (first | done | (with_reducible rfl)))
          (try simp only [Act.put, List.setIfInBounds_toArray, List.set_cons_zero, List.set_cons_succ])
          refine takeN (i := 5) (v := ?_) rfl (by kernel_rfl) (by kernel_rfl) (by kernel_rfl) (by kernel_rfl) (fun _ _ _ h => h) (Or.inl ⟨by rfl, ?_⟩) hS ?_
          rotate_left
          · (intro U hSU; (try dsimp only at hSU); go_simp; all_goals (first | done | (with_reducible rfl)))
          (try simp only [Act.put, List.setIfInBounds_toArray, List.set_cons_zero, List.set_cons_succ])
          refine takeN (i := 6) (v := ?_) rfl (by kernel_rfl) (by kernel_rfl) (by kernel_rfl) (by kernel_rfl) (fun _ _ _ h => h) (Or.inl ⟨by rfl, ?_⟩) hS ?_
          rotate_left
          · (intro U hSU; (try dsimp only at hSU); go_simp; all_goals (first | done | (with_reducible rfl)))
          (try simp only [Act.put, List.setIfInBounds_toArray, List.set_cons_zero, List.set_cons_succ])
          refine takeN (i := 7) (v := ?_) rfl (by kernel_rfl) (by kernel_rfl) (by kernel_rfl) (by kernel_rfl) (fun _ _ _ h => h) (Or.inl ⟨by rfl, ?_⟩) hS ?_
          rotate_left
          · (intro U hSU; (try dsimp only at hSU); go_simp; all_goals (first | done | (with_reducible rfl)))
          (try simp only [Act.put, List.setIfInBounds_toArray, List.set_cons_zero, List.set_cons_succ])
          refine takeN (i := 8) (v := ?_) rfl (by kernel_rfl) (by kernel_rfl) (by kernel_rfl) (by kernel_rfl) (fun _ _ _ h => h) (Or.inl ⟨by rfl, ?_⟩) hS ?_
          rotate_left
          · (intro U hSU; (try dsimp only at hSU); go_simp; all_goals (first | done | (with_reducible rfl)))
          (try simp only [Act.put, List.setIfInBounds_toArray, List.set_cons_zero, List.set_cons_succ])
          refine takeN (i := 9) (v := ?_) rfl (by kernel_rfl) (by kernel_rfl) (by kernel_rfl) (by kernel_rfl) (fun _ _ _ h => h) (Or.inl ⟨by rfl, ?_⟩) hS ?_
          rotate_left
          · (intro U hSU; (try dsimp only at hSU); go_simp; all_goals (first | done | (with_reducible rfl)))
          (try simp only [Act.put, List.setIfInBounds_toArray, List.set_cons_zero, List.set_cons_succ])
          refine takeN (i := 10) (v := ?_) rfl (by kernel_rfl) (by kernel_rfl) (by kernel_rfl) (by kernel_rfl) (fun _ _ _ h => h) (Or.inl ⟨by rfl, ?_⟩) hS ?_
          rotate_left
          · (intro U hSU; (try dsimp only at hSU); go_simp; all_goals (first | done | (with_reducible rfl)))
          (try simp only [Act.put, List.setIfInBounds_toArray, List.set_cons_zero, List.set_cons_succ])
          refine takeN (i := 11) (v := ?_) rfl (by kernel_rfl) (by kernel_rfl) (by kernel_rfl) (by kernel_rfl) (fun _ _ _ h => h) (Or.inl ⟨by rfl, ?_⟩) hS ?_
          rotate_left
          · (intro U hSU; (try dsimp only at hSU); go_simp; all_goals (first | done | (with_reducible rfl)))
          (try simp only [Act.put, List.setIfInBounds_toArray, List.set_cons_zero, List.set_cons_succ])
          refine takeN (i := 12) (v := ?_) rfl (by kernel_rfl) (by kernel_rfl) (by kernel_rfl) (by kernel_rfl) (fun _ _ _ h => h) (Or.inl ⟨by rfl, ?_⟩) hS ?_
          rotate_left
          · (intro U hSU; (try dsimp only at hSU); go_simp; all_goals (first | done | (with_reducible rfl)))
          (try simp only [Act.put, List.setIfInBounds_toArray, List.set_cons_zero, List.set_cons_succ])
          refine takeN (i := 13) (v := ?_) rfl (by kernel_rfl) (by kernel_rfl) (by kernel_rfl) (by kernel_rfl) (fun _ _ _ h => h) (Or.inl ⟨by rfl, ?_⟩) hS ?_
          rotate_left
          · (intro U hSU; (try dsimp only at hSU); go_simp; all_goals (first | done | (with_reducible rfl)))
          (try simp only [Act.put, List.setIfInBounds_toArray, List.set_cons_zero, List.set_cons_succ])
          refine takeN (i := 14) (v := ?_) rfl (by kernel_rfl) (by kernel_rfl) (by kernel_rfl) (by kernel_rfl) (fun _ _ _ h => h) (Or.inl ⟨by rfl, ?_⟩) hS ?_
          rotate_left
          · (intro U hSU; (try dsimp only at hSU); go_simp; all_goals (first | done | (with_reducible rfl)))
          (try simp only [Act.put, List.setIfInBounds_toArray, List.set_cons_zero, List.set_cons_succ])
          refine takeN (i := 15) (v := ?_) rfl (by kernel_rfl) (by kernel_rfl) (by kernel_rfl) (by kernel_rfl) (fun _ _ _ h => h) (Or.inl ⟨by rfl, ?_⟩) hS ?_
          rotate_left
          · (intro U hSU; (try dsimp only at hSU); go_simp; all_goals (first | done | (with_reducible rfl)))
          (try simp only [Act.put, List.setIfInBounds_toArray, List.set_cons_zero, List.set_cons_succ])
          refine takeN (i := 16) (v := ?_) rfl (by kernel_rfl) (by kernel_rfl) (by kernel_rfl) (by kernel_rfl) (fun _ _ _ h => h) (Or.inl ⟨by rfl, ?_⟩) hS ?_
          rotate_left
          · (intro U hSU; (try dsimp only at hSU); go_simp; all_goals (first | done | (with_reducible rfl)))
          (try simp only [Act.put, List.setIfInBounds_toArray, List.set_cons_zero, List.set_cons_succ])
          refine takeN (i := 17) (v := ?_) rfl (by kernel_rfl) (by kernel_rfl) (by kernel_rfl) (by kernel_rfl) (fun _ _ _ h => h) (Or.inl ⟨by rfl, ?_⟩) hS ?_
          rotate_left
          · (intro U hSU; (try dsimp only at hSU); go_simp; all_goals (first | done | (with_reducible rfl)))
          (try simp only [Act.put, List.setIfInBounds_toArray, List.set_cons_zero, List.set_cons_succ])
          refine takeN (i := 18) (v := ?_) rfl (by kernel_rfl) (by kernel_rfl) (by kernel_rfl) (by kernel_rfl) (fun _ _ _ h => h) (Or.inl ⟨by rfl, ?_⟩) hS ?_
          rotate_left
          · (intro U hSU; (try dsimp only at hSU); go_simp; all_goals (first | done | (with_reducible rfl)))
          (try simp only [Act.put, List.setIfInBounds_toArray, List.set_cons_zero, List.set_cons_succ])
          refine takeN (i := 19) (v := ?_) rfl (by kernel_rfl) (by kernel_rfl) (by kernel_rfl) (by kernel_rfl) (fun _ _ _ h => h) (Or.inl ⟨by rfl, ?_⟩) hS ?_
          rotate_left
          · (intro U hSU; (try dsimp only at hSU); go_simp; all_goals (first | done | (with_reducible rfl)))
          (try simp only [Act.put, List.setIfInBounds_toArray, List.set_cons_zero, List.set_cons_succ])
          refine oneN (i := 20) (by kernel_rfl) rfl (fun K hK => ?_)
          go_simp
          refine hK _ _ (fun _ => keepS hS (below_alloc (Below.refl _ _) _)) ?_
          clear hK K
          (try simp only [Act.put, List.setIfInBounds_toArray, List.set_cons_zero, List.set_cons_succ])
          refine oneN (i := 21) (by kernel_rfl) rfl (fun K hK => ?_)
          have hklA := HKL.out
          refine step_append_grows rfl (.tmp 100) (.tmp 105) 36 rfl 53 i53 _ 3 32 Try.underlying36 hi53 hz53 hs53 hb53 rfl (by decide) none 0 0 [] rfl (fun _ => ⟨rfl, rfl⟩) rfl (fun b e => by cases e) ⟨V.heap.size, 0, none⟩ 1 1 [.int .i64 a, .int .i64 b, .string (strOfNums s)] rfl rfl (cells_new V.drew _ _) (by simp [Value.oneCell']) (by omega) (by unfold maxLen; omega) (by omega) ?_
          intro v' w6 hown hgrow
          obtain ⟨Ap, cq, rfl⟩ := own_slice2 hown
          have hbw : Below (World.alloc V.drew (.cells #[.int .i64 a, .int .i64 b, .string (strOfNums s)] 53)).heap.size (World.alloc V.drew (.cells #[.int .i64 a, .int .i64 b, .string (strOfNums s)] 53)) w6 := ⟨hgrow.os, hgrow.tape, hgrow.output, hgrow.size, fun i hi => hgrow.block i hi (by simp)⟩
          have hS2 := keepS hS (below_alloc (w := V.drew) (Below.refl _ _) (.cells #[.int .i64 a, .int .i64 b, .string (strOfNums s)] 53))
          have hS3 := keepS hS2 hbw
          refine hK _ _ (fun _ => hS3) ?_
          clear hK K hS hS2
          have O6 := Aside0.mk hown
          have B6 := Aside0.mk hbw
          clear hown hgrow hbw
          obtain ⟨t1, t2, t3, t4, t5⟩ := hS3
          (try simp only [Act.put, List.setIfInBounds_toArray, List.set_cons_zero, List.set_cons_succ])
          refine tailN2 22 (by kernel_rfl) (Nat.le_refl _) (by decide) (by kernel_rfl) ?_
          simp only [List.drop_succ_cons, List.drop_zero]
          go_upto_region 24 with (fail)
          obtain ⟨hbw0, hS0⟩ : ∃ _ : Below V.heap.size V w6, True := ⟨below_step (below_alloc (below_drew1 (Below.refl V.heap.size V)) (.cells #[.int .i64 a, .int .i64 b, .string (strOfNums s)] 53)) B6.out, trivial⟩
          have hw6B := QB.out.below hbw0
          refine wp_gen (fun V4 => V4.heap[bk]? = some (.cells #[.int .i64 a, .int .i64 b] 51 (0, 0)) ∧ IsB z V4 g bm mo (.slice Ap 1 cq) lo ∧ V4.ownsRow z.heap.size 53 3 (.slice Ap 1 cq) 1 ([] ++ [.int .i64 a, .int .i64 b, .string (strOfNums s)]) ∧ CMap V4 bm n (fun x y => (cnt L x y : Int)) ∧ Keep z w V4) ⟨blk_far (blk_below QX.out hbw0) (fun e => by have e1 := blk_below QX.out hbw0; rw [show bk = g from e, hw6B.1] at e1; cases e1) _, hw6B.set_1 _, Go.Joins.ownsRow_le (O6.out.kept (grownBy_setC w6 ⟨g, 1, none⟩ _) (Or.inr (own_off O6.out hw6B.1 (by decide)))) (by have := QK.out.size; have := HZW.out; simp; omega), (QM.out.below hbw0).kept (grownBy_setC w6 ⟨g, 1, none⟩ _) (fun e => HBG.out (by cases e; rfl)), (QK.out.trans (Keep.of_below hbw0)).trans (Keep.grown (grownBy_setC w6 ⟨g, 1, none⟩ _) (fun r er => by cases er; exact ⟨hw6B.2, _, hw6B.1, kind39 _⟩))⟩ ?_
          clear t1 t2 t3 t4 t5 O6 B6 hbw0 hS0 hw6B hcv QX QB QO QM QK hgV 
          rintro V4 ⟨q1, q2, q3, q4, q5⟩
          have QX := Aside0.mk q1
          have QB := Aside0.mk q2
          have QO := Aside0.mk q3
          have QM := Aside0.mk q4
          have QK := Aside0.mk q5
          have x0 : V4.cell? ⟨bk, 0, none⟩ = some (.int .i64 a) := (blk_cell q1 0).trans rfl
          have x1 : V4.cell? ⟨bk, 1, none⟩ = some (.int .i64 b) := (blk_cell q1 1).trans rfl
          have g2 : V4.cell? ⟨g, 2, none⟩ = some (.map (some bm)) := (blk_cell q2.1 2).trans rfl
          obtain ⟨c1, hc1⟩ : ∃ c1, cnt L a b = c1 := ⟨_, rfl⟩
          have hc1b : c1 ≤ 64 := by have := cnt_le L a b; have := HKL.out; omega
          have l1 : (Instr.lookup 37 (.map (some bm)) (.agg #[.int .i64 a, .int .i64 b]) false).run Try.prog V4.drew = .ok (.int .i64 (c1 : Int)) V4.drew := by
            have := CMap.look (w := V4.drew) (a := a) (b := b) q4 (wf64 (by omega) (by omega)) (wf64 (by omega) (by omega))
            rw [hc1] at this
            exact this
          obtain ⟨v0, st, w1, hent, hmid, hst⟩ := CMap.entry2 (w := V4.drew) (a := a) (b := b) q4 (by unfold maxLen; omega) (wf64 (by omega) (by omega)) (wf64 (by omega) (by omega))
          obtain ⟨w8, hes, m8, t8⟩ := hst ((c1 : Int) + 1) (wf64 (by omega) (by omega))
          have l2 : (Instr.lookup 37 (.map (some bm)) (.agg #[.int .i64 a, .int .i64 b]) false).run Try.prog w1 = .ok (.int .i64 (c1 : Int)) w1 := by
            rw [hc1] at hmid
            exact hmid
          unfold kv at hent
          replace hes : (Instr.entryStore 37 (.map (some bm)) (.int .i64 (st : Int)) (.int .i64 ((c1 : Int) + 1))).run Try.prog w1 = .ok () w8 := hes
          have hm8 : setM (fun x y => (cnt L x y : Int)) a b ((c1 : Int) + 1) = fun x y => (cnt (L ++ [(a, b, s)]) x y : Int) := by rw [← hc1]; exact step_put L a b s
          rw [hm8] at m8
          have M8 := Aside0.mk m8
          have T8 := Aside0.mk t8
          clear q1 q2 q3 q4 q5 hst m8 t8 hmid hm8 hc1
          go_region
          all_goals go_wp2
          go_ret
          have hgr : V4.drew.grownBy w8 (some bm) := T8.out.grown
          obtain ⟨o, ho, hc⟩ := CMap.obj QM.out
          have hlen := putS_len mo L lo a b s h8 HL.out h7
          have hoks := putS_ok mo L lo a b s HSB.out HL.out
          rw [HPV.out] at hlen hoks ⊢
          dsimp only at hlen hoks ⊢
          refine ⟨rfl, ⟨bm, Ap, cq, n + 1, ?_, ?_, M8.out, by omega, h5, hoks, hlen, h8, h9, by omega, by omega⟩, QK.out.trans ((Keep.of_below (below_drew1 (Below.refl _ _))).trans (Keep.grown (w := V4.drew) hgr (fun r er => by cases er; exact ⟨h5, o, ho, Or.inl hc⟩)))⟩
          · have hB := IsB.kept (w := V4.drew) QB.out hgr (fun e => HBG.out (by cases e; rfl))
            rw [List.length_append]
            rw [HK0.out]
            exact hB
          · have hO := World.ownsRow.kept (w := V4.drew) QO.out hgr (Or.inr (own_offm QO.out ho hc))
            rw [List.length_append, flat3_snoc]
            rw [HK0.out]
            exact hO
        · obtain ⟨gk, e1, hkc, hcells⟩ := hw
          subst e1
          have hgV : g < V.heap.size := blk_lt QB.out.1
          have hb0 : Below V.heap.size V V.drew := below_drew1 (Below.refl _ _)
          have d1 : V.drew.cell? ⟨g, 1, none⟩ = some (.slice (some ⟨gk, 0, none⟩) L.length c) := (blk_cell QB.out.1 1).trans rfl
          have d2 : V.drew.cell? ⟨bk, 0, none⟩ = some (.int .i64 a) := (blk_cell QX.out 0).trans rfl
          have d3 : V.drew.cell? ⟨bk, 1, none⟩ = some (.int .i64 b) := (blk_cell QX.out 1).trans rfl
          have d4 : V.drew.frozen? ⟨g, 1, none⟩ = false := blk_frozen QB.out.1 1
          have hcv : ∀ U, Below V.heap.size V U → (convert 27 9 (.slice As s.length cs)).run Try.prog U = .ok (.string (strOfNums s)) U := fun U hV => Kd.C_string Try.underlying27 Try.underlying5 Try.underlying9 (HC.out U (QK.out.trans (Keep.of_below hV)))
          obtain ⟨hi53, hz53, hs53, hb53⟩ := HZS.out
          refine region_N (fun U => Below V.heap.size V U ∧ U.cell? ⟨g, 1, none⟩ = some (.slice (some ⟨gk, 0, none⟩) L.length c) ∧ U.cell? ⟨bk, 0, none⟩ = some (.int .i64 a) ∧ U.cell? ⟨bk, 1, none⟩ = some (.int .i64 b) ∧ U.frozen? ⟨g, 1, none⟩ = false) 22 (by kernel_rfl) ⟨hb0, d1, d2, d3, d4⟩ (fun hS => ?_)
          clear hb0 d1 d2 d3 d4
          refine takeN (i := 0) (v := ?_) rfl (by kernel_rfl) (by kernel_rfl) (by kernel_rfl) (by kernel_rfl) (fun _ _ _ h => h) (Or.inl ⟨by rfl, ?_⟩) hS ?_
          rotate_left
          · (intro U hSU; (try dsimp only at hSU); go_simp; all_goals (first | done | (with_reducible rfl)))
          (try simp only [Act.put, List.setIfInBounds_toArray, List.set_cons_zero, List.set_cons_succ])
          refine takeN (i := 1) (v := ?_) rfl (by kernel_rfl) (by kernel_rfl) (by kernel_rfl) (by kernel_rfl) (fun _ _ _ h => h) (Or.inl ⟨by rfl, ?_⟩) hS ?_
          rotate_left
          · (intro U hSU; (try dsimp only at hSU); go_simp; all_goals (first | done | (with_reducible rfl)))
          (try simp only [Act.put, List.setIfInBounds_toArray, List.set_cons_zero, List.set_cons_succ])
          refine takeN (i := 2) (v := ?_) rfl (by kernel_rfl) (by kernel_rfl) (by kernel_rfl) (by kernel_rfl) (fun _ _ _ h => h) (Or.inl ⟨by rfl, ?_⟩) hS ?_
          rotate_left
          · (intro U hSU; (try dsimp only at hSU); go_simp; all_goals (first | done | (with_reducible rfl)))
          (try simp only [Act.put, List.setIfInBounds_toArray, List.set_cons_zero, List.set_cons_succ])
          refine takeN (i := 3) (v := ?_) rfl (by kernel_rfl) (by kernel_rfl) (by kernel_rfl) (by kernel_rfl) (fun _ _ _ h => h) (Or.inl ⟨by rfl, ?_⟩) hS ?_
          rotate_left
          · (intro U hSU; (try dsimp only at hSU); go_simp; all_goals (first | done | (with_reducible rfl)))
          (try simp only [Act.put, List.setIfInBounds_toArray, List.set_cons_zero, List.set_cons_succ])
          refine takeN (i := 4) (v := ?_) rfl (by kernel_rfl) (by kernel_rfl) (by kernel_rfl) (by kernel_rfl) (fun _ _ _ h => h) (Or.inl ⟨by rfl, ?_⟩) hS ?_
          rotate_left
          · (intro U hSU; (try dsimp only at hSU); go_simp; all_goals (first | done | (with_reducible rfl)))
          (try simp only [Act.put, List.setIfInBounds_toArray, List.set_cons_zero, List.set_cons_succ])
          refine takeN (i := 5) (v := ?_) rfl (by kernel_rfl) (by kernel_rfl) (by kernel_rfl) (by kernel_rfl) (fun _ _ _ h => h) (Or.inl ⟨by rfl, ?_⟩) hS ?_
          rotate_left
          · (intro U hSU; (try dsimp only at hSU); go_simp; all_goals (first | done | (with_reducible rfl)))
          (try simp only [Act.put, List.setIfInBounds_toArray, List.set_cons_zero, List.set_cons_succ])
          refine takeN (i := 6) (v := ?_) rfl (by kernel_rfl) (by kernel_rfl) (by kernel_rfl) (by kernel_rfl) (fun _ _ _ h => h) (Or.inl ⟨by rfl, ?_⟩) hS ?_
          rotate_left
          · (intro U hSU; (try dsimp only at hSU); go_simp; all_goals (first | done | (with_reducible rfl)))
          (try simp only [Act.put, List.setIfInBounds_toArray, List.set_cons_zero, List.set_cons_succ])
          refine takeN (i := 7) (v := ?_) rfl (by kernel_rfl) (by kernel_rfl) (by kernel_rfl) (by kernel_rfl) (fun _ _ _ h => h) (Or.inl ⟨by rfl, ?_⟩) hS ?_
          rotate_left
          · (intro U hSU; (try dsimp only at hSU); go_simp; all_goals (first | done | (with_reducible rfl)))
          (try simp only [Act.put, List.setIfInBounds_toArray, List.set_cons_zero, List.set_cons_succ])
          refine takeN (i := 8) (v := ?_) rfl (by kernel_rfl) (by kernel_rfl) (by kernel_rfl) (by kernel_rfl) (fun _ _ _ h => h) (Or.inl ⟨by rfl, ?_⟩) hS ?_
          rotate_left
          · (intro U hSU; (try dsimp only at hSU); go_simp; all_goals (first | done | (with_reducible rfl)))
          (try simp only [Act.put, List.setIfInBounds_toArray, List.set_cons_zero, List.set_cons_succ])
          refine takeN (i := 9) (v := ?_) rfl (by kernel_rfl) (by kernel_rfl) (by kernel_rfl) (by kernel_rfl) (fun _ _ _ h => h) (Or.inl ⟨by rfl, ?_⟩) hS ?_
          rotate_left
          · (intro U hSU; (try dsimp only at hSU); go_simp; all_goals (first | done | (with_reducible rfl)))
          (try simp only [Act.put, List.setIfInBounds_toArray, List.set_cons_zero, List.set_cons_succ])
          refine takeN (i := 10) (v := ?_) rfl (by kernel_rfl) (by kernel_rfl) (by kernel_rfl) (by kernel_rfl) (fun _ _ _ h => h) (Or.inl ⟨by rfl, ?_⟩) hS ?_
          rotate_left
          · (intro U hSU; (try dsimp only at hSU); go_simp; all_goals (first | done | (with_reducible rfl)))
          (try simp only [Act.put, List.setIfInBounds_toArray, List.set_cons_zero, List.set_cons_succ])
          refine takeN (i := 11) (v := ?_) rfl (by kernel_rfl) (by kernel_rfl) (by kernel_rfl) (by kernel_rfl) (fun _ _ _ h => h) (Or.inl ⟨by rfl, ?_⟩) hS ?_
          rotate_left
          · (intro U hSU; (try dsimp only at hSU); go_simp; all_goals (first | done | (with_reducible rfl)))
          (try simp only [Act.put, List.setIfInBounds_toArray, List.set_cons_zero, List.set_cons_succ])
          refine takeN (i := 12) (v := ?_) rfl (by kernel_rfl) (by kernel_rfl) (by kernel_rfl) (by kernel_rfl) (fun _ _ _ h => h) (Or.inl ⟨by rfl, ?_⟩) hS ?_
          rotate_left
          · (intro U hSU; (try dsimp only at hSU); go_simp; all_goals (first | done | (with_reducible rfl)))
          (try simp only [Act.put, List.setIfInBounds_toArray, List.set_cons_zero, List.set_cons_succ])
          refine takeN (i := 13) (v := ?_) rfl (by kernel_rfl) (by kernel_rfl) (by kernel_rfl) (by kernel_rfl) (fun _ _ _ h => h) (Or.inl ⟨by rfl, ?_⟩) hS ?_
          rotate_left
          · (intro U hSU; (try dsimp only at hSU); go_simp; all_goals (first | done | (with_reducible rfl)))
          (try simp only [Act.put, List.setIfInBounds_toArray, List.set_cons_zero, List.set_cons_succ])
          refine takeN (i := 14) (v := ?_) rfl (by kernel_rfl) (by kernel_rfl) (by kernel_rfl) (by kernel_rfl) (fun _ _ _ h => h) (Or.inl ⟨by rfl, ?_⟩) hS ?_
          rotate_left
          · (intro U hSU; (try dsimp only at hSU); go_simp; all_goals (first | done | (with_reducible rfl)))
          (try simp only [Act.put, List.setIfInBounds_toArray, List.set_cons_zero, List.set_cons_succ])
          refine takeN (i := 15) (v := ?_) rfl (by kernel_rfl) (by kernel_rfl) (by kernel_rfl) (by kernel_rfl) (fun _ _ _ h => h) (Or.inl ⟨by rfl, ?_⟩) hS ?_
          rotate_left
          · (intro U hSU; (try dsimp only at hSU); go_simp; all_goals (first | done | (with_reducible rfl)))
          (try simp only [Act.put, List.setIfInBounds_toArray, List.set_cons_zero, List.set_cons_succ])
          refine takeN (i := 16) (v := ?_) rfl (by kernel_rfl) (by kernel_rfl) (by kernel_rfl) (by kernel_rfl) (fun _ _ _ h => h) (Or.inl ⟨by rfl, ?_⟩) hS ?_
          rotate_left
          · (intro U hSU; (try dsimp only at hSU); go_simp; all_goals (first | done | (with_reducible rfl)))
          (try simp only [Act.put, List.setIfInBounds_toArray, List.set_cons_zero, List.set_cons_succ])
          refine takeN (i := 17) (v := ?_) rfl (by kernel_rfl) (by kernel_rfl) (by kernel_rfl) (by kernel_rfl) (fun _ _ _ h => h) (Or.inl ⟨by rfl, ?_⟩) hS ?_
          rotate_left
          · (intro U hSU; (try dsimp only at hSU); go_simp; all_goals (first | done | (with_reducible rfl)))
          (try simp only [Act.put, List.setIfInBounds_toArray, List.set_cons_zero, List.set_cons_succ])
          refine takeN (i := 18) (v := ?_) rfl (by kernel_rfl) (by kernel_rfl) (by kernel_rfl) (by kernel_rfl) (fun _ _ _ h => h) (Or.inl ⟨by rfl, ?_⟩) hS ?_
          rotate_left
          · (intro U hSU; (try dsimp only at hSU); go_simp; all_goals (first | done | (with_reducible rfl)))
          (try simp only [Act.put, List.setIfInBounds_toArray, List.set_cons_zero, List.set_cons_succ])
          refine takeN (i := 19) (v := ?_) rfl (by kernel_rfl) (by kernel_rfl) (by kernel_rfl) (by kernel_rfl) (fun _ _ _ h => h) (Or.inl ⟨by rfl, ?_⟩) hS ?_
          rotate_left
          · (intro U hSU; (try dsimp only at hSU); go_simp; all_goals (first | done | (with_reducible rfl)))
          (try simp only [Act.put, List.setIfInBounds_toArray, List.set_cons_zero, List.set_cons_succ])
          refine oneN (i := 20) (by kernel_rfl) rfl (fun K hK => ?_)
          go_simp
          refine hK _ _ (fun _ => keepS hS (below_alloc (Below.refl _ _) _)) ?_
          clear hK K
          (try simp only [Act.put, List.setIfInBounds_toArray, List.set_cons_zero, List.set_cons_succ])
          refine oneN (i := 21) (by kernel_rfl) rfl (fun K hK => ?_)
          have hklA := HKL.out
          refine step_append_grows rfl (.tmp 100) (.tmp 105) 36 rfl 53 i53 _ 3 32 Try.underlying36 hi53 hz53 hs53 hb53 rfl (by decide) (some ⟨gk, 0, none⟩) L.length L.length (flat3 L) rfl (fun e => by cases e) QO.out.1 (fun b e j u hj => by cases e; exact cell_bel (w := V) (w' := World.alloc V.drew (.cells #[.int .i64 a, .int .i64 b, .string (strOfNums s)] 53)) (below_alloc (below_drew1 (Below.refl _ _)) _) (hcells j u hj)) ⟨V.heap.size, 0, none⟩ 1 1 [.int .i64 a, .int .i64 b, .string (strOfNums s)] rfl rfl (cells_new V.drew _ _) (by simp [Value.oneCell']) (by omega) (by unfold maxLen; omega) (by omega) ?_
          intro v' w6 hown hgrow
          obtain ⟨Ap, cq, rfl⟩ := own_slice2 hown
          have hbw : Below (World.alloc V.drew (.cells #[.int .i64 a, .int .i64 b, .string (strOfNums s)] 53)).heap.size (World.alloc V.drew (.cells #[.int .i64 a, .int .i64 b, .string (strOfNums s)] 53)) w6 := ⟨hgrow.os, hgrow.tape, hgrow.output, hgrow.size, fun i hi => hgrow.block i hi (by simp)⟩
          have hS2 := keepS hS (below_alloc (w := V.drew) (Below.refl _ _) (.cells #[.int .i64 a, .int .i64 b, .string (strOfNums s)] 53))
          have hS3 := keepS hS2 hbw
          refine hK _ _ (fun _ => hS3) ?_
          clear hK K hS hS2
          have O6 := Aside0.mk hown
          have B6 := Aside0.mk hbw
          clear hown hgrow hbw
          obtain ⟨t1, t2, t3, t4, t5⟩ := hS3
          (try simp only [Act.put, List.setIfInBounds_toArray, List.set_cons_zero, List.set_cons_succ])
          refine tailN2 22 (by kernel_rfl) (Nat.le_refl _) (by decide) (by kernel_rfl) ?_
          simp only [List.drop_succ_cons, List.drop_zero]
          go_upto_region 24 with (fail)
          obtain ⟨hbw0, hS0⟩ : ∃ _ : Below V.heap.size V w6, True := ⟨below_step (below_alloc (below_drew1 (Below.refl V.heap.size V)) (.cells #[.int .i64 a, .int .i64 b, .string (strOfNums s)] 53)) B6.out, trivial⟩
          have hw6B := QB.out.below hbw0
          refine wp_gen (fun V4 => V4.heap[bk]? = some (.cells #[.int .i64 a, .int .i64 b] 51 (0, 0)) ∧ IsB z V4 g bm mo (.slice Ap (L.length + 1) cq) lo ∧ V4.ownsRow z.heap.size 53 3 (.slice Ap (L.length + 1) cq) (L.length + 1) ((flat3 L) ++ [.int .i64 a, .int .i64 b, .string (strOfNums s)]) ∧ CMap V4 bm n (fun x y => (cnt L x y : Int)) ∧ Keep z w V4) ⟨blk_far (blk_below QX.out hbw0) (fun e => by have e1 := blk_below QX.out hbw0; rw [show bk = g from e, hw6B.1] at e1; cases e1) _, hw6B.set_1 _, Go.Joins.ownsRow_le (O6.out.kept (grownBy_setC w6 ⟨g, 1, none⟩ _) (Or.inr (own_off O6.out hw6B.1 (by decide)))) (by have := QK.out.size; have := HZW.out; simp; omega), (QM.out.below hbw0).kept (grownBy_setC w6 ⟨g, 1, none⟩ _) (fun e => HBG.out (by cases e; rfl)), (QK.out.trans (Keep.of_below hbw0)).trans (Keep.grown (grownBy_setC w6 ⟨g, 1, none⟩ _) (fun r er => by cases er; exact ⟨hw6B.2, _, hw6B.1, kind39 _⟩))⟩ ?_
          clear t1 t2 t3 t4 t5 O6 B6 hbw0 hS0 hw6B hcv QX QB QO QM QK hgV hkc hcells
          rintro V4 ⟨q1, q2, q3, q4, q5⟩
          have QX := Aside0.mk q1
          have QB := Aside0.mk q2
          have QO := Aside0.mk q3
          have QM := Aside0.mk q4
          have QK := Aside0.mk q5
          have x0 : V4.cell? ⟨bk, 0, none⟩ = some (.int .i64 a) := (blk_cell q1 0).trans rfl
          have x1 : V4.cell? ⟨bk, 1, none⟩ = some (.int .i64 b) := (blk_cell q1 1).trans rfl
          have g2 : V4.cell? ⟨g, 2, none⟩ = some (.map (some bm)) := (blk_cell q2.1 2).trans rfl
          obtain ⟨c1, hc1⟩ : ∃ c1, cnt L a b = c1 := ⟨_, rfl⟩
          have hc1b : c1 ≤ 64 := by have := cnt_le L a b; have := HKL.out; omega
          have l1 : (Instr.lookup 37 (.map (some bm)) (.agg #[.int .i64 a, .int .i64 b]) false).run Try.prog V4.drew = .ok (.int .i64 (c1 : Int)) V4.drew := by
            have := CMap.look (w := V4.drew) (a := a) (b := b) q4 (wf64 (by omega) (by omega)) (wf64 (by omega) (by omega))
            rw [hc1] at this
            exact this
          obtain ⟨v0, st, w1, hent, hmid, hst⟩ := CMap.entry2 (w := V4.drew) (a := a) (b := b) q4 (by unfold maxLen; omega) (wf64 (by omega) (by omega)) (wf64 (by omega) (by omega))
          obtain ⟨w8, hes, m8, t8⟩ := hst ((c1 : Int) + 1) (wf64 (by omega) (by omega))
          have l2 : (Instr.lookup 37 (.map (some bm)) (.agg #[.int .i64 a, .int .i64 b]) false).run Try.prog w1 = .ok (.int .i64 (c1 : Int)) w1 := by
            rw [hc1] at hmid
            exact hmid
          unfold kv at hent
          replace hes : (Instr.entryStore 37 (.map (some bm)) (.int .i64 (st : Int)) (.int .i64 ((c1 : Int) + 1))).run Try.prog w1 = .ok () w8 := hes
          have hm8 : setM (fun x y => (cnt L x y : Int)) a b ((c1 : Int) + 1) = fun x y => (cnt (L ++ [(a, b, s)]) x y : Int) := by rw [← hc1]; exact step_put L a b s
          rw [hm8] at m8
          have M8 := Aside0.mk m8
          have T8 := Aside0.mk t8
          clear q1 q2 q3 q4 q5 hst m8 t8 hmid hm8 hc1
          go_region
          all_goals go_wp2
          go_ret
          have hgr : V4.drew.grownBy w8 (some bm) := T8.out.grown
          obtain ⟨o, ho, hc⟩ := CMap.obj QM.out
          have hlen := putS_len mo L lo a b s h8 HL.out h7
          have hoks := putS_ok mo L lo a b s HSB.out HL.out
          rw [HPV.out] at hlen hoks ⊢
          dsimp only at hlen hoks ⊢
          refine ⟨rfl, ⟨bm, Ap, cq, n + 1, ?_, ?_, M8.out, by omega, h5, hoks, hlen, h8, h9, by omega, by omega⟩, QK.out.trans ((Keep.of_below (below_drew1 (Below.refl _ _))).trans (Keep.grown (w := V4.drew) hgr (fun r er => by cases er; exact ⟨h5, o, ho, Or.inl hc⟩)))⟩
          · have hB := IsB.kept (w := V4.drew) QB.out hgr (fun e => HBG.out (by cases e; rfl))
            rw [List.length_append]
            skip
            exact hB
          · have hO := World.ownsRow.kept (w := V4.drew) QO.out hgr (Or.inr (own_offm QO.out ho hc))
            rw [List.length_append, flat3_snoc]
            skip
            exact hO
end Go.Proofs.Ytoeaoanaefipaaa.Bfa
