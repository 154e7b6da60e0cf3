/- Points and corrections. -/
import Derived.Test.YtpdjobbpaldkcaaProg
import Derived.Below
import Derived.Deep.Draws
import Derived.Deep.AppendLies
import Derived.Maps.AppendAt
import Derived.OwnWalk
import Derived.Laws.BytesArg
import Derived.Laws.MakeOwn
import Derived.Laws.OwnMore
import Derived.Deep.OwnRows
import Derived.Tactics
import Derived.Lib.ConvBytes
import Derived.Laws.Slices
import Derived.WalkKit
import Derived.KernelRfl
import Derived.RowKit3
import Derived.Deep.LoopGhost
import Derived.Deep.QuietTactic
import Derived.BigQuiet
import Derived.WideLaws
import Derived.Deep.DeepCutAuto
import Derived.Deep.CutBlock
import Derived.Deep.RegionHeld3
import Derived.Laws.Rows
import Derived.Lib.AppendStr
import Derived.ArgAppend
import Derived.Laws.IdiomCopy
import Derived.OrdersHeld
import Derived.Laws.BitsLemmas
import Derived.RowKit
import Derived.RegionTactic
import Derived.ChangeAlike
import Derived.Outline
import Derived.LoopTactic
import Derived.WalkSpells
import Derived.WalkLawsBesides
import Derived.Lib.Hide
import Derived.StillTailTactics
import Derived.Deep.RegionWith
import Derived.Deep.RegionLaw
import Derived.Deep.DeepFit
import Derived.Deep.DeepMust
import Derived.Test.YtpdjobbpaldkcaaWWords
import Derived.Test.YtpdjobbpaldkcaaWLast
import Derived.Test.YtpdjobbpaldkcaaWTab
import Derived.Test.YtpdjobbpaldkcaaWFour
import Derived.Test.YtpdjobbpaldkcaaWQPut
import Derived.Test.YtpdjobbpaldkcaaWApart
import Derived.Test.YtpdjobbpaldkcaaWArr
import Derived.Test.YtpdjobbpaldkcaaWZeros
import Derived.Test.YtpdjobbpaldkcaaWFoot
import Derived.Test.YtpdjobbpaldkcaaWKept
import Derived.Test.YtpdjobbpaldkcaaWShare
import Derived.Test.YtpdjobbpaldkcaaWN
import Derived.Test.YtpdjobbpaldkcaaWFootNe
import Derived.Test.YtpdjobbpaldkcaaWAt
import Derived.Test.YtpdjobbpaldkcaaWEqStruct
import Derived.Test.YtpdjobbpaldkcaaWRepsOne
import Derived.Test.YtpdjobbpaldkcaaWInv
import Derived.Test.YtpdjobbpaldkcaaWInvWords
import Derived.Test.YtpdjobbpaldkcaaWGuard
import Derived.Test.YtpdjobbpaldkcaaWNEv
import Derived.Test.YtpdjobbpaldkcaaWMore
import Derived.Test.YtpdjobbpaldkcaaFtm5
namespace Go.Proofs.Ytpdjobbpaldkcaa.Ftm6
open Go.RowKit Go.Proofs.YtpdjobbpaldkcaaW.PrintWords Go.Proofs.YtpdjobbpaldkcaaW.PrintLast Go.Proofs.YtpdjobbpaldkcaaW.PrintMore 
attribute [local go_sem] max2_int min2_int max_two min_two max_three min_three max_four min_four
set_option linter.unusedVariables false
set_option linter.unusedSimpArgs false
open Go.Proofs.Ytpdjobbpaldkcaa.QFtm Go.Proofs.Ytpdjobbpaldkcaa.Ftm1 Go.Proofs.Ytpdjobbpaldkcaa.Ftm2 Go.Proofs.Ytpdjobbpaldkcaa.Ftm5
def okI (x : S31) : Prop := x.f0 ≤ x.f1 ∧ -1099511627776 ≤ x.f0 ∧ x.f1 ≤ 1099511627776
instance (x : S31) : Decidable (okI x) := by unfold okI; infer_instance
def ptsF : List S31 → List Int
  | [] => []
  | x :: t => if okI x then (x.f0 + x.f1).tdiv 2 :: ptsF t else ptsF t
theorem ptsF_len (l : List S31) : (ptsF l).length ≤ l.length := by
  induction l with
  | nil => simp [ptsF]
  | cons x t ih => unfold ptsF; split <;> simp <;> omega
def clampF (a0 a1 : Int) : Int := mn (mx a0 (wrap64 (-(mx a1 0)))) (mx a1 0)
def corF (x : List S31) (f most : Int) : Int × Int := if (midF (ptsF x) f).2 = 0 then (clampF (midF (ptsF x) f).1 most, 0) else (0, (midF (ptsF x) f).2)
theorem ival_val (x : S31) : ival_Middle.f x.f0 x.f1 = some (if okI x then ((x.f0 + x.f1).tdiv 2, 0) else (0, 1)) := by
  unfold ival_Middle.f ival_Right.f
  by_cases ho : okI x
  · obtain ⟨h1, h2, h3⟩ := ho
    have hd : -1099511627776 ≤ (x.f0 + x.f1).tdiv 2 ∧ (x.f0 + x.f1).tdiv 2 ≤ 1099511627776 := by
      have h4 : (x.f0 + x.f1).tdiv 2 = (x.f0 + x.f1).tdiv 2 := rfl
      by_cases hs : 0 ≤ x.f0 + x.f1
      · rw [Int.tdiv_eq_ediv_of_nonneg hs]; omega
      · have e : (x.f0 + x.f1).tdiv 2 = -((-(x.f0 + x.f1)).tdiv 2) := by rw [Int.neg_tdiv]; omega
        rw [e, Int.tdiv_eq_ediv_of_nonneg (by omega)]; omega
    rw [if_pos (show okI x from ⟨h1, h2, h3⟩), if_pos (by omega), if_pos (by omega), decide_eq_true h3, Option.bind_some, if_pos rfl, w64 (n := x.f0 + x.f1) (by omega) (by omega), w64 (by omega) (by omega)]
  · rw [if_neg ho]
    unfold okI at ho
    by_cases g1 : x.f0 ≤ x.f1
    · rw [if_pos g1]
      by_cases g2 : x.f0 ≥ -1099511627776
      · rw [if_pos g2, decide_eq_false (by omega)]; rfl
      · rw [if_neg g2]; rfl
    · rw [if_neg g1]; rfl
theorem carillonref08_val (x : S31) : carillonref08_Middle.f x.f0 x.f1 = some (if okI x then ((x.f0 + x.f1).tdiv 2, 0) else (0, 1)) := by
  unfold carillonref08_Middle.f carillonref08_Right.f
  by_cases ho : okI x
  · obtain ⟨h1, h2, h3⟩ := ho
    have hd : -1099511627776 ≤ (x.f0 + x.f1).tdiv 2 ∧ (x.f0 + x.f1).tdiv 2 ≤ 1099511627776 := by
      have h4 : (x.f0 + x.f1).tdiv 2 = (x.f0 + x.f1).tdiv 2 := rfl
      by_cases hs : 0 ≤ x.f0 + x.f1
      · rw [Int.tdiv_eq_ediv_of_nonneg hs]; omega
      · have e : (x.f0 + x.f1).tdiv 2 = -((-(x.f0 + x.f1)).tdiv 2) := by rw [Int.neg_tdiv]; omega
        rw [e, Int.tdiv_eq_ediv_of_nonneg (by omega)]; omega
    rw [if_pos (show okI x from ⟨h1, h2, h3⟩), if_pos (by omega), if_pos (by omega), decide_eq_true h3, Option.bind_some, if_pos rfl, w64 (n := x.f0 + x.f1) (by omega) (by omega), w64 (by omega) (by omega)]
  · rw [if_neg ho]
    unfold okI at ho
    by_cases g1 : x.f0 ≥ -1099511627776
    · rw [if_pos g1]
      by_cases g2 : x.f0 ≤ x.f1
      · rw [if_pos g2, decide_eq_false (by omega)]; rfl
      · rw [if_neg g2]; rfl
    · rw [if_neg g1]; rfl
theorem ftm_Points_loop (l : List S31) (hl : l.length < 1000000) (d : Nat) : ∀ (k i : Nat) (acc : List Int), d < k → l.length - i ≤ d → i ≤ l.length → acc.length ≤ i → ftm_Points.l0 k acc l (l.length : Int) (i : Int) = some (acc ++ ptsF (l.drop i)) := by
  induction d with
  | zero =>
    intro k i acc hk hd hi ha
    obtain ⟨k, rfl⟩ : ∃ q, k = q + 1 := ⟨k - 1, by omega⟩
    obtain rfl : i = l.length := by omega
    simp only [ftm_Points.l0]
    rw [if_neg (by omega)]
    simp [ptsF]
  | succ d ih =>
    intro k i acc hk hd hi ha
    obtain ⟨k, rfl⟩ : ∃ q, k = q + 1 := ⟨k - 1, by omega⟩
    by_cases hc : i < l.length
    · have hrd : rd_T31 l (i : Int) = l[i] := by unfold rd_T31; rw [Int.toNat_natCast, List.getD_eq_getElem?_getD, List.getElem?_eq_getElem hc]; rfl
      have hw : wrap64 ((i : Int) + 1) = ((i + 1 : Nat) : Int) := by rw [w64 (by omega) (by omega)]; omega
      have hdr : l.drop i = l[i] :: l.drop (i + 1) := List.drop_eq_getElem_cons hc
      simp only [ftm_Points.l0]
      rw [if_pos (by omega), if_pos (by omega), if_pos (by omega), hrd, ival_val, Option.bind_some, hw, hdr]
      by_cases ho : okI l[i]
      · rw [if_pos ho]
        simp only [if_true]
        rw [if_pos (by omega), ih k (i + 1) _ (by omega) (by omega) (by omega) (by simp; omega)]
        simp [ptsF, ho]
      · rw [if_neg ho]
        simp only []
        rw [if_neg (by decide), ih k (i + 1) _ (by omega) (by omega) (by omega) (by omega)]
        simp [ptsF, ho]
    · obtain rfl : i = l.length := by omega
      simp only [ftm_Points.l0]
      rw [if_neg (by omega)]
      simp [ptsF]
theorem carillonref25_Points_loop (l : List S31) (hl : l.length < 1000000) (d : Nat) : ∀ (k i : Nat) (acc : List Int), d < k → l.length - i ≤ d → i ≤ l.length → acc.length ≤ i → carillonref25_Points.l0 k l acc (i : Int) = some (acc ++ ptsF (l.drop i)) := by
  induction d with
  | zero =>
    intro k i acc hk hd hi ha
    obtain ⟨k, rfl⟩ : ∃ q, k = q + 1 := ⟨k - 1, by omega⟩
    obtain rfl : i = l.length := by omega
    simp only [carillonref25_Points.l0]
    rw [if_neg (by omega)]
    simp [ptsF]
  | succ d ih =>
    intro k i acc hk hd hi ha
    obtain ⟨k, rfl⟩ : ∃ q, k = q + 1 := ⟨k - 1, by omega⟩
    by_cases hc : i < l.length
    · have hrd : rd_T31 l (i : Int) = l[i] := by unfold rd_T31; rw [Int.toNat_natCast, List.getD_eq_getElem?_getD, List.getElem?_eq_getElem hc]; rfl
      have hw : wrap64 ((i : Int) + 1) = ((i + 1 : Nat) : Int) := by rw [w64 (by omega) (by omega)]; omega
      have hdr : l.drop i = l[i] :: l.drop (i + 1) := List.drop_eq_getElem_cons hc
      simp only [carillonref25_Points.l0]
      rw [if_pos (by omega), if_pos (by omega), hrd, carillonref08_val, Option.bind_some, hw, hdr]
      by_cases ho : okI l[i]
      · rw [if_pos ho]
        simp only [if_true]
        rw [if_pos (by omega), ih k (i + 1) _ (by omega) (by omega) (by omega) (by simp; omega)]
        simp [ptsF, ho]
      · rw [if_neg ho]
        simp only []
        rw [if_neg (by decide), ih k (i + 1) _ (by omega) (by omega) (by omega) (by omega)]
        simp [ptsF, ho]
    · obtain rfl : i = l.length := by omega
      simp only [carillonref25_Points.l0]
      rw [if_neg (by omega)]
      simp [ptsF]
set_option maxRecDepth 100000 in
set_option maxHeartbeats 4000000 in
theorem correct_any (A0 : Option Addr) (c0 : Nat) (x : List S31) (f most : Int) (w : World) (hr0 : Kd.C k31 w A0 x.length x) (hc0 : x.length ≤ c0) (hl : x.length < 1000000) (f0 : -9223372036854775808 ≤ f) (f1 : f ≤ 9223372036854775807) :
    Calls Try.prog 13 #[.slice A0 x.length c0, .int .i64 f, .int .i64 most] w fun e w' => e = .returned (.tuple #[.int .i64 (corF x f most).1, .int .i64 (corF x f most).2]) ∧ Below w.heap.size w w' := by
  have hp : ftm_Points.f (x.length + 1) x = some (ptsF x) := by
    unfold ftm_Points.f
    have := ftm_Points_loop x hl x.length (x.length + 1) 0 [] (by omega) (by omega) (by omega) (by simp)
    simpa using this
  have HP := Aside0.mk (ftm_Points.calls (x.length + 1) A0 c0 x (ptsF x) w hr0 hc0 hp)
  have hpl : (ptsF x).length < 1000000 := Nat.lt_of_le_of_lt (ptsF_len x) hl
  obtain ⟨ps, hps⟩ : ∃ ps, ptsF x = ps := ⟨_, rfl⟩
  obtain ⟨m, hm⟩ : ∃ m, (midF ps f).1 = m := ⟨_, rfl⟩
  obtain ⟨er, her⟩ : ∃ er, (midF ps f).2 = er := ⟨_, rfl⟩
  have HC := Aside0.mk (show corF x f most = if er = 0 then (clampF m most, 0) else (0, er) by unfold corF; rw [hps, hm, her])
  rw [hps] at HP hpl
  have HM := Aside0.mk hm
  have HE := Aside0.mk her
  clear hp hr0 hps hm her
  by_cases h0 : er = 0
  · subst h0
    go_enter Try.func13, Try.ntmps13
    go_wp2_with fail
    refine HP.out.mono ?_
    rintro e w1 ⟨v0, rfl, hR, hB⟩
    obtain ⟨A, c, rfl, hcc, hC⟩ := Kd.R_reads hR
    have HB := Aside0.mk hB
    clear hB hR HP
    go_wp2_with fail
    refine (middle_any A c ps f w1 hC (by omega) f0 f1).mono ?_
    rintro e w2 ⟨rfl, hB2⟩
    rw [HM.out, HE.out]
    have HB2 := Aside0.mk hB2
    clear hB2 hC hcc
    go_wp2_with fail
    refine (ftm_Clamp.calls m most (clampF m most) _ rfl).mono ?_
    rintro e w3 ⟨rfl, hB3⟩
    have HB3 := Aside0.mk hB3
    clear hB3
    go_wp2
    go_ret2
    rw [HC.out]
    exact ⟨rfl, below_step (below_step HB.out HB2.out) HB3.out⟩
  · have hb : (er == 0) = false := beq_eq_false_iff_ne.2 h0
    have hb2 : (er != 0) = true := bne_iff_ne.2 h0
    rw [if_neg h0] at HC
    clear h0
    go_enter Try.func13, Try.ntmps13
    go_wp2_with fail
    refine HP.out.mono ?_
    rintro e w1 ⟨v0, rfl, hR, hB⟩
    obtain ⟨A, c, rfl, hcc, hC⟩ := Kd.R_reads hR
    have HB := Aside0.mk hB
    clear hB hR HP
    go_wp2_with fail
    refine (middle_any A c ps f w1 hC (by omega) f0 f1).mono ?_
    rintro e w2 ⟨rfl, hB2⟩
    rw [HM.out, HE.out]
    have HB2 := Aside0.mk hB2
    clear hB2 hC hcc
    go_wp2
    go_ret2
    rw [HC.out]
    exact ⟨rfl, below_step HB.out HB2.out⟩
set_option maxRecDepth 100000 in
set_option maxHeartbeats 4000000 in
theorem rcorrect_any (A0 : Option Addr) (c0 : Nat) (x : List S31) (f most : Int) (w : World) (hr0 : Kd.C k31 w A0 x.length x) (hc0 : x.length ≤ c0) (hl : x.length < 1000000) (f0 : -9223372036854775808 ≤ f) (f1 : f ≤ 9223372036854775807) :
    Calls Try.prog 14 #[.slice A0 x.length c0, .int .i64 f, .int .i64 most] w fun e w' => e = .returned (.tuple #[.int .i64 (corF x f most).1, .int .i64 (corF x f most).2]) ∧ Below w.heap.size w w' := by
  have hp : carillonref25_Points.f (x.length + 1) x = some (ptsF x) := by
    unfold carillonref25_Points.f
    have := carillonref25_Points_loop x hl x.length (x.length + 1) 0 [] (by omega) (by omega) (by omega) (by simp)
    simpa using this
  have HP := Aside0.mk (carillonref25_Points.calls (x.length + 1) A0 c0 x (ptsF x) w hr0 hc0 hp)
  have hpl : (ptsF x).length < 1000000 := Nat.lt_of_le_of_lt (ptsF_len x) hl
  obtain ⟨ps, hps⟩ : ∃ ps, ptsF x = ps := ⟨_, rfl⟩
  obtain ⟨m, hm⟩ : ∃ m, (midF ps f).1 = m := ⟨_, rfl⟩
  obtain ⟨er, her⟩ : ∃ er, (midF ps f).2 = er := ⟨_, rfl⟩
  have HC := Aside0.mk (show corF x f most = if er = 0 then (clampF m most, 0) else (0, er) by unfold corF; rw [hps, hm, her])
  rw [hps] at HP hpl
  have HM := Aside0.mk hm
  have HE := Aside0.mk her
  clear hp hr0 hps hm her
  by_cases h0 : er = 0
  · subst h0
    go_enter Try.func14, Try.ntmps14
    go_wp2_with fail
    refine HP.out.mono ?_
    rintro e w1 ⟨v0, rfl, hR, hB⟩
    obtain ⟨A, c, rfl, hcc, hC⟩ := Kd.R_reads hR
    have HB := Aside0.mk hB
    clear hB hR HP
    go_wp2_with fail
    refine (rmiddle_any A c ps f w1 hC hcc hpl f0 f1).mono ?_
    rintro e w2 ⟨rfl, hB2⟩
    rw [HM.out, HE.out]
    have HB2 := Aside0.mk hB2
    clear hB2 hC hcc
    go_wp2_with fail
    refine (carillonref25_Clamp.calls m most (clampF m most) _ rfl).mono ?_
    rintro e w3 ⟨rfl, hB3⟩
    have HB3 := Aside0.mk hB3
    clear hB3
    go_wp2
    go_ret2
    rw [HC.out]
    exact ⟨rfl, below_step (below_step HB.out HB2.out) HB3.out⟩
  · have hb : (er == 0) = false := beq_eq_false_iff_ne.2 h0
    have hb2 : (er != 0) = true := bne_iff_ne.2 h0
    rw [if_neg h0] at HC
    clear h0
    go_enter Try.func14, Try.ntmps14
    go_wp2_with fail
    refine HP.out.mono ?_
    rintro e w1 ⟨v0, rfl, hR, hB⟩
    obtain ⟨A, c, rfl, hcc, hC⟩ := Kd.R_reads hR
    have HB := Aside0.mk hB
    clear hB hR HP
    go_wp2_with fail
    refine (rmiddle_any A c ps f w1 hC hcc hpl f0 f1).mono ?_
    rintro e w2 ⟨rfl, hB2⟩
    rw [HM.out, HE.out]
    have HB2 := Aside0.mk hB2
    clear hB2 hC hcc
    go_wp2
    go_ret2
    rw [HC.out]
    exact ⟨rfl, below_step HB.out HB2.out⟩
end Go.Proofs.Ytpdjobbpaldkcaa.Ftm6
