/- What Trim and Middle come to. -/
import Derived.Test.YtpdjobbpaldkcaaProg
import Derived.Below
import Derived.Deep.Draws
import Derived.Deep.AppendLies
import Derived.Maps.AppendAt
import Derived.OwnWalk
import Derived.Laws.BytesArg
import Derived.Laws.MakeOwn
import Derived.Laws.OwnMore
import Derived.Deep.OwnRows
import Derived.Tactics
import Derived.Lib.ConvBytes
import Derived.Laws.Slices
import Derived.WalkKit
import Derived.KernelRfl
import Derived.RowKit3
import Derived.Deep.LoopGhost
import Derived.Deep.QuietTactic
import Derived.BigQuiet
import Derived.WideLaws
import Derived.Deep.DeepCutAuto
import Derived.Deep.CutBlock
import Derived.Deep.RegionHeld3
import Derived.Laws.Rows
import Derived.Lib.AppendStr
import Derived.ArgAppend
import Derived.Laws.IdiomCopy
import Derived.OrdersHeld
import Derived.Laws.BitsLemmas
import Derived.RowKit
import Derived.RegionTactic
import Derived.ChangeAlike
import Derived.Outline
import Derived.LoopTactic
import Derived.WalkSpells
import Derived.WalkLawsBesides
import Derived.Lib.Hide
import Derived.StillTailTactics
import Derived.Deep.RegionWith
import Derived.Deep.RegionLaw
import Derived.Deep.DeepFit
import Derived.Deep.DeepMust
import Derived.Test.YtpdjobbpaldkcaaWWords
import Derived.Test.YtpdjobbpaldkcaaWLast
import Derived.Test.YtpdjobbpaldkcaaWTab
import Derived.Test.YtpdjobbpaldkcaaWFour
import Derived.Test.YtpdjobbpaldkcaaWQPut
import Derived.Test.YtpdjobbpaldkcaaWApart
import Derived.Test.YtpdjobbpaldkcaaWArr
import Derived.Test.YtpdjobbpaldkcaaWZeros
import Derived.Test.YtpdjobbpaldkcaaWFoot
import Derived.Test.YtpdjobbpaldkcaaWKept
import Derived.Test.YtpdjobbpaldkcaaWShare
import Derived.Test.YtpdjobbpaldkcaaWN
import Derived.Test.YtpdjobbpaldkcaaWFootNe
import Derived.Test.YtpdjobbpaldkcaaWAt
import Derived.Test.YtpdjobbpaldkcaaWEqStruct
import Derived.Test.YtpdjobbpaldkcaaWRepsOne
import Derived.Test.YtpdjobbpaldkcaaWInv
import Derived.Test.YtpdjobbpaldkcaaWInvWords
import Derived.Test.YtpdjobbpaldkcaaWGuard
import Derived.Test.YtpdjobbpaldkcaaWNEv
import Derived.Test.YtpdjobbpaldkcaaWMore
import Derived.Test.YtpdjobbpaldkcaaFtm1
namespace Go.Proofs.Ytpdjobbpaldkcaa.Ftm2
open Go.RowKit Go.Proofs.YtpdjobbpaldkcaaW.PrintWords Go.Proofs.YtpdjobbpaldkcaaW.PrintLast Go.Proofs.YtpdjobbpaldkcaaW.PrintMore 
attribute [local go_sem] max2_int min2_int max_two min_two max_three min_three max_four min_four
set_option linter.unusedVariables false
set_option linter.unusedSimpArgs false
open Go.Proofs.Ytpdjobbpaldkcaa.QFtm Go.Proofs.Ytpdjobbpaldkcaa.Ftm1
def TrimPost (l : List Int) (f : Int) (w : World) (e : Ending) (w' : World) : Prop := ∃ A n c, e = .returned (.tuple #[.slice A n c, .int .i64 (trimF l f).2]) ∧ n = (trimF l f).1.length ∧ Kd.C (Kd.int .i64) w' A (trimF l f).1.length (trimF l f).1 ∧ Below w.heap.size w w'
theorem trimPost_mk {l : List Int} {f : Int} {w w' : World} {A : Option Addr} {n c : Nat} {ys : List Int} {r : Int} (h : trimF l f = (ys, r)) (hn : n = ys.length) (hC : Kd.C (Kd.int .i64) w' A ys.length ys) (hB : Below w.heap.size w w') : TrimPost l f w (.returned (.tuple #[.slice A n c, .int .i64 r])) w' :=
  ⟨A, n, c, by rw [h], by rw [h]; exact hn, by rw [h]; exact hC, hB⟩
set_option maxRecDepth 100000 in
set_option maxHeartbeats 4000000 in
theorem trim_any (A0 : Option Addr) (c0 : Nat) (l : List Int) (f : Int) (w : World) (hr : Kd.C (Kd.int .i64) w A0 l.length l) (hl : l.length * 8 ≤ 140737488351232) (f0 : -9223372036854775808 ≤ f) (f1 : f ≤ 9223372036854775807) :
    Calls Try.prog 10 #[.slice A0 l.length c0, .int .i64 f] w (TrimPost l f w) := by
  have HR := Aside0.mk hr
  clear hr
  by_cases hf : f < 0
  · have e : trimF l f = ([], 1) := by unfold trimF; rw [if_pos hf]
    have E := Aside0.mk e
    clear e
    go_enter Try.func10, Try.ntmps10
    go_wp2
    go_ret2
    exact trimPost_mk E.out rfl (Kd.C_nil _ _) (Below.refl _ _)
  · have hf0 : 0 ≤ f := by omega
    clear hf
    go_enter Try.func10, Try.ntmps10
    go_wp2
    go_loopw [6, 13] (fun v6 v13 wr => ∃ (i : Nat), v13 = .int .i64 i ∧ i ≤ l.length ∧ Aside0 (okAll (l.take i)) ∧ Aside0 (Kd.R (Kd.int .i64) 2 wr w.heap.size (fun _ => True) v6 (srt (l.take i))) ∧ Aside0 (Below w.heap.size w wr)) (fun _ v _ => (l.length - intOf v).toNat)
    case atStart => exact ⟨0, rfl, by omega, ⟨by simp [okAll]⟩, ⟨by simpa [srt] using Kd.R_nil _ _ _ _ _⟩, ⟨Below.refl _ _⟩⟩
    case round =>
      obtain ⟨i, rfl, i1, HO, HA, HB⟩ := hrel
      by_cases c5 : i < l.length
      · have c5b : decide ((i : Int) < (l.length : Int)) = true := decide_eq_true (by omega)
        obtain ⟨ad1, e1, hx1⟩ := Kd.at_int HR.out i (by omega) (by omega)
        cases e1
        replace hx1 := (HB.out.cell (World.block_lt_of_cell? w _ hx1)).trans hx1
        rw [Int.toNat_natCast] at hx1
        obtain ⟨x, hx⟩ : ∃ x, rd l i = x := ⟨_, rfl⟩
        have hx' : l[i] = x := by rw [← hx, rd_at l i c5]
        rw [hx] at hx1
        have HX := Aside0.mk hx'
        clear hx hx'
        have hts : l.take (i + 1) = l.take i ++ [l[i]] := by rw [List.take_succ_eq_append_getElem c5]
        have HT := Aside0.mk hts
        clear hts
        by_cases hlo : -1099511627776 ≤ x ∧ x ≤ 1099511627776
        · obtain ⟨x0, x1⟩ := hlo
          go_wp2_with fail
          have hlen : (srt (l.take i)).length = i := by rw [srt_length]; simp; omega
          refine (ftm_put_int64.calls _ (fun _ => True) _ _ x _ w _ HB.out HA.out (put_eq _ x (srt_props _).1 (by rw [hlen]; omega))).mono ?_
          clear hlen
          rintro e w2 ⟨v2, rfl, hR2, hB2, _⟩
          have HR2 := Aside0.mk hR2
          have HB2 := Aside0.mk hB2
          clear hR2 hB2
          go_wp2
          go_roundw
          case rel => exact ⟨i + 1, by go_num, by omega, ⟨by
            rw [HT.out, HX.out]; intro y hy
            rcases List.mem_append.1 hy with hy | hy
            · exact HO.out y hy
            · rw [List.mem_singleton] at hy; omega⟩, ⟨by rw [HT.out, HX.out, srt_snoc]; exact Kd.R_mono HR2.out (fun _ _ => trivial)⟩, HB2⟩
          case measure => simp [intOf]; omega
        · have e : trimF l f = ([], 1) := by
            unfold trimF
            rw [if_neg (by omega), if_neg]
            intro h
            have := h x (by rw [← HX.out]; exact List.getElem_mem c5)
            omega
          have E := Aside0.mk e
          clear e
          by_cases hl2 : x < -1099511627776
          · clear hlo
            go_wp2
            go_ret2
            exact trimPost_mk E.out rfl (Kd.C_nil _ _) HB.out
          · have hl3 : 1099511627776 < x := by omega
            have hl4 : -1099511627776 ≤ x := by omega
            clear hlo hl2
            go_wp2
            go_ret2
            exact trimPost_mk E.out rfl (Kd.C_nil _ _) HB.out
      · have c5b : decide ((i : Int) < (l.length : Int)) = false := decide_eq_false (by omega)
        obtain rfl : i = l.length := by omega
        have hok : okAll l := by have := HO.out; rwa [List.take_length] at this
        have hA := HA.out
        rw [List.take_length] at hA
        obtain ⟨A, c, rfl, hcc, hC⟩ := Kd.R_reads hA
        clear hA HA HO
        have hlen := srt_length l
        by_cases hlt : (l.length : Int) - f ≤ f
        · have e : trimF l f = ([], 6) := by unfold trimF; rw [if_neg (by omega), if_pos hok, if_pos hlt]
          have E := Aside0.mk e
          clear e
          rw [hlen]
          clear hlen hC hcc hok
          by_cases hlt2 : (l.length : Int) < f
          · clear hlt
            go_wp2
            go_ret2
            exact trimPost_mk E.out rfl (Kd.C_nil _ _) HB.out
          · have hlt3 : f ≤ (l.length : Int) := by omega
            clear hlt2
            go_wp2
            go_ret2
            exact trimPost_mk E.out rfl (Kd.C_nil _ _) HB.out
        · have e : trimF l f = (((srt l).take (l.length - f).toNat).drop f.toNat, 0) := by unfold trimF; rw [if_neg (by omega), if_pos hok, if_neg hlt]
          have E := Aside0.mk e
          obtain ⟨i0, hi, hz0, hz1, hz2⟩ := info_parts Ftm1.info2
          obtain ⟨A2, hrun, hread, hle⟩ := print_mid_int (P := Try.prog) (k := .i64) 22 2 Try.underlying22 hi hz1 A c (srt l) f ((l.length : Int) - f) hf0 (by omega) (by omega) hcc
          rw [hlen] at hrun
          have HRD := Aside0.mk (Kd.C_of_reads (d := (0 : Int)) (h1 := fun _ => rfl) (hread _ (Kd.reads_of_C (d := (0 : Int)) hC)))
          rw [hlen]
          have hlt1 : ¬ ((l.length : Int) < f) := by omega
          clear hread hle hlen e hi hz0 hz1 hz2 hC hcc hok
          go_wp2
          go_ret2
          exact trimPost_mk E.out (by simp) HRD.out HB.out
theorem trim_at (A0 : Option Addr) (c0 : Nat) (l : List Int) (f : Int) (w : World) (hr : Kd.C (Kd.int .i64) w A0 l.length l) (hl : l.length * 8 ≤ 140737488351232) (f0 : -9223372036854775808 ≤ f) (f1 : f ≤ 9223372036854775807) (ys : List Int) (r : Int) (h : trimF l f = (ys, r)) :
    Calls Try.prog 10 #[.slice A0 l.length c0, .int .i64 f] w fun e w' => ∃ A c, e = .returned (.tuple #[.slice A ys.length c, .int .i64 r]) ∧ Kd.C (Kd.int .i64) w' A ys.length ys ∧ Below w.heap.size w w' := by
  refine (trim_any A0 c0 l f w hr hl f0 f1).mono ?_
  rintro e w' ⟨A, n, c, rfl, hn, hC, hB⟩
  rw [h] at hn hC ⊢
  subst hn
  exact ⟨A, c, rfl, hC, hB⟩
/-- What Middle tells. -/
def midF (l : List Int) (f : Int) : Int × Int := if (trimF l f).2 = 0 then ((rd (trimF l f).1 0 + rd (trimF l f).1 ((trimF l f).1.length - 1)).tdiv 2, 0) else (0, (trimF l f).2)
theorem trim_ok (l : List Int) (f : Int) (h : (trimF l f).2 = 0) : 0 ≤ f ∧ okAll l ∧ f < (l.length : Int) - f ∧ (trimF l f).1 = ((srt l).take (l.length - f).toNat).drop f.toNat := by
  unfold trimF at *
  by_cases h1 : f < 0
  · rw [if_pos h1] at h; simp at h
  · by_cases h2 : okAll l
    · by_cases h3 : (l.length : Int) - f ≤ f
      · rw [if_neg h1, if_pos h2, if_pos h3] at h; simp at h
      · rw [if_neg h1, if_pos h2, if_neg h3]; exact ⟨by omega, h2, by omega, rfl⟩
    · rw [if_neg h1, if_neg h2] at h; simp at h
theorem mem_trim (l : List Int) (f : Int) (x : Int) (h : x ∈ (trimF l f).1) : (trimF l f).2 = 0 ∧ x ∈ l := by
  by_cases h0 : (trimF l f).2 = 0
  · refine ⟨h0, ?_⟩
    obtain ⟨_, _, _, e⟩ := trim_ok l f h0
    rw [e] at h
    exact (srt_props l).2.mem_iff.1 (List.mem_of_mem_take (List.mem_of_mem_drop h))
  · have : (trimF l f).1 = [] := by
      clear h
      unfold trimF at *
      by_cases h1 : f < 0
      · rw [if_pos h1]
      · rw [if_neg h1] at h0 ⊢
        by_cases h2 : okAll l
        · rw [if_pos h2] at h0 ⊢
          by_cases h3 : (l.length : Int) - f ≤ f
          · rw [if_pos h3]
          · rw [if_neg h3] at h0; simp at h0
        · rw [if_neg h2]
    rw [this] at h; simp at h
set_option maxRecDepth 100000 in
set_option maxHeartbeats 4000000 in
theorem middle_any (A0 : Option Addr) (c0 : Nat) (l : List Int) (f : Int) (w : World) (hr0 : Kd.C (Kd.int .i64) w A0 l.length l) (hl : l.length * 8 ≤ 140737488351232) (f0 : -9223372036854775808 ≤ f) (f1 : f ≤ 9223372036854775807) :
    Calls Try.prog 8 #[.slice A0 l.length c0, .int .i64 f] w fun e w' => e = .returned (.tuple #[.int .i64 (midF l f).1, .int .i64 (midF l f).2]) ∧ Below w.heap.size w w' := by
  by_cases h : (trimF l f).2 = 0
  · obtain ⟨g0, g1, g2, g3⟩ := trim_ok l f h
    have hm := mem_trim l f
    have hlen : (trimF l f).1.length = l.length - 2 * f.toNat := by rw [g3, List.length_drop, List.length_take, srt_length]; omega
    obtain ⟨ys, hys⟩ : ∃ ys, (trimF l f).1 = ys := ⟨_, rfl⟩
    have HM := Aside0.mk (show midF l f = ((rd ys 0 + rd ys (ys.length - 1)).tdiv 2, 0) by unfold midF; rw [if_pos h, hys])
    have HT := Aside0.mk (trim_at A0 c0 l f w hr0 hl f0 f1 ys 0 (Prod.ext hys h))
    rw [hys] at hlen hm
    clear hr0
    have hy0 : 0 < ys.length := by omega
    have b0 : ∀ i : Nat, i < ys.length → -1099511627776 ≤ rd ys i ∧ rd ys i ≤ 1099511627776 := fun i hi => by
      rw [rd_at ys i hi]
      exact g1 _ (hm _ (List.getElem_mem hi)).2
    have y0 := b0 0 hy0
    have y1 := b0 (ys.length - 1) (by omega)
    rw [show ((ys.length - 1 : Nat) : Int) = (ys.length : Int) - 1 by omega] at y1
    have hyl : ys.length ≤ 140737488351232 := by omega
    clear b0 hlen hm hys g0 g1 g2 g3 h hl
    obtain ⟨p0, hp0⟩ : ∃ p, rd ys 0 = p := ⟨_, rfl⟩
    obtain ⟨p1, hp1⟩ : ∃ p, rd ys (ys.length - 1) = p := ⟨_, rfl⟩
    have HP0 := Aside0.mk hp0
    have HP1 := Aside0.mk hp1
    rw [show ((0 : Nat) : Int) = 0 from rfl, hp0] at y0
    rw [hp1] at y1
    obtain ⟨y0a, y0b⟩ := y0
    obtain ⟨y1a, y1b⟩ := y1
    clear hp0 hp1
    go_enter Try.func8, Try.ntmps8
    go_wp2_with fail
    refine HT.out.mono ?_
    rintro e w1 ⟨A, c, rfl, hC, hB⟩
    obtain ⟨ad, e1, hx0⟩ := Kd.at_int hC 0 (by omega) (by omega)
    cases e1
    obtain ⟨ad2, e2, hx1⟩ := Kd.at_int hC ((ys.length : Int) - 1) (by omega) (by omega)
    cases e2
    rw [HP0.out] at hx0
    rw [HP1.out] at hx1
    have HB := Aside0.mk hB
    have e0 : ad.add (Int.toNat 0) = ad := by cases ad; simp [Addr.add]
    have hx0' : w1.cell? ad = some (.int .i64 p0) := by rw [e0] at hx0; exact hx0
    clear e0
    have hx1' : w1.cell? (ad.add (ys.length - 1)) = some (.int .i64 p1) := by rwa [show ((ys.length : Int) - 1).toNat = ys.length - 1 by omega] at hx1
    have hy1 : 1 ≤ (ys.length : Int) := by omega
    clear hC hB HT hx0 hx1
    go_wp2
    go_quiet (fail)
    go_wp2
    go_ret2
    rw [HM.out]
    rw [HP0.out, HP1.out]
    exact ⟨by simp, by apply pw_below_drewN; exact HB.out⟩
  · have HM := Aside0.mk (show midF l f = (0, (trimF l f).2) by unfold midF; rw [if_neg h])
    have hb : ((trimF l f).2 == 0) = false := beq_eq_false_iff_ne.2 h
    have hb2 : ((trimF l f).2 != 0) = true := bne_iff_ne.2 h
    obtain ⟨r, hr⟩ : ∃ r, (trimF l f).2 = r := ⟨_, rfl⟩
    rw [hr] at HM hb hb2
    have HT := Aside0.mk (trim_at A0 c0 l f w hr0 hl f0 f1 (trimF l f).1 r (Prod.ext rfl hr))
    clear h hr hr0
    go_enter Try.func8, Try.ntmps8
    go_wp2_with fail
    refine HT.out.mono ?_
    rintro e w1 ⟨A, c, rfl, hC, hB⟩
    have HB := Aside0.mk hB
    clear hC hB HT
    go_wp2
    go_ret2
    rw [HM.out]
    exact ⟨rfl, HB.out⟩
end Go.Proofs.Ytpdjobbpaldkcaa.Ftm2
