/- The cell of a time. -/
import Derived.Test.YtfaikkhnlioajaaSch
import Derived.Test.YtfaikkhnlioajaaZT
namespace Go.Proofs.Ytfaikkhnlioajaa.Plc
set_option linter.unusedVariables false
open Go.RowKit Go.Proofs.YtfaikkhnlioajaaW.PrintWords Go.Proofs.Ytfaikkhnlioajaa.QBase Go.Proofs.Ytfaikkhnlioajaa.Sch
/-- The cell of a time: its round, slot, place in it; whether there is one. -/
def plc (n s t : Int) : Int × Int × Int × Int := if 0 ≤ t ∧ t ≤ 1099511627776 ∧ t / (n * s) < 1048576 then (t / (n * s), t % (n * s) / s, t % (n * s) % s, 0) else (0, 0, 0, 1)
theorem mod_of (t r : Int) : t - t / r * r = t % r := by have := Int.mul_ediv_add_emod t r; rw [Int.mul_comm] at this; omega
theorem ok_r {n f s dl ks ee wd rh sl cp : Int} (h : Ok n f s dl ks ee wd rh sl cp) : 300 ≤ n * s ∧ n * s ≤ 80000 ∧ 300 ≤ s ∧ s ≤ 10000 := by
  unfold Ok at h
  have hr := rnd_bd n s (by omega) (by omega) (by omega) (by omega)
  omega
theorem place_in (k : Nat) (n f s dl ks ee wd rh sl cp t : Int) (h : Ok n f s dl ks ee wd rh sl cp) : sched_Place.f (k + 3) n f s dl ks ee wd rh sl cp t = some (plc n s t) := by
  have hp := planned_in k n f s dl ks ee wd rh sl cp h
  obtain ⟨r0, r1, s0, s1⟩ := ok_r h
  unfold sched_Place.f
  rw [hp, Option.bind_some]
  simp only [if_true]
  by_cases h0 : t < 0
  · rw [if_pos h0, sched_Place.j0, if_pos rfl]; unfold plc; rw [if_neg (by omega)]
  · rw [if_neg h0]
    by_cases h1 : t ≤ 1099511627776
    · have e0 := Int.ediv_nonneg (show 0 ≤ t by omega) (show 0 ≤ n * s by omega)
      have e1 := Int.ediv_le_self (n * s) (show 0 ≤ t by omega)
      have m0 := Int.emod_nonneg t (show n * s ≠ 0 by omega)
      have m1 := Int.emod_lt_of_pos t (show 0 < n * s by omega)
      have hm := mod_of t (n * s)
      have d0 := Int.ediv_nonneg m0 (show 0 ≤ s by omega)
      have d1 := Int.ediv_le_self s m0
      rw [decide_eq_false (by omega), sched_Place.j0, if_neg (by simp), if_neg (by omega), Int.tdiv_eq_ediv_of_nonneg (a := t) (by omega), w64 (n := t / (n * s)) (by omega) (by omega)]
      by_cases h2 : t / (n * s) < 1048576
      · rw [if_neg (by omega), if_neg (by omega), w64 (n := t / (n * s) * (n * s)) (by omega) (by omega), hm, w64 (n := t % (n * s)) (by omega) (by omega), Int.tdiv_eq_ediv_of_nonneg m0, w64 (n := t % (n * s) / s) (by omega) (by omega), Int.tmod_eq_emod_of_nonneg m0]
        unfold plc; rw [if_pos (by omega)]
      · rw [if_pos (by omega)]; unfold plc; rw [if_neg (by omega)]
    · rw [decide_eq_true (by omega), sched_Place.j0, if_pos rfl]; unfold plc; rw [if_neg (by omega)]
theorem rplace_in (k : Nat) (n f s dl ks ee wd rh sl cp t : Int) (h : Ok n f s dl ks ee wd rh sl cp) : carillonref16_Place.f (k + 1) n f s dl ks ee wd rh sl cp t = some (plc n s t) := by
  obtain ⟨r0, r1, s0, s1⟩ := ok_r h
  unfold carillonref16_Place.f
  rw [rcheck_in n f s dl ks ee wd rh sl cp h, Option.bind_some, if_pos rfl]
  by_cases h0 : t < 0
  · rw [if_pos h0, carillonref16_Place.j0, if_pos rfl]; unfold plc; rw [if_neg (by omega)]
  · rw [if_neg h0]
    by_cases h1 : t ≤ 1099511627776
    · have e0 := Int.ediv_nonneg (show 0 ≤ t by omega) (show 0 ≤ n * s by omega)
      have e1 := Int.ediv_le_self (n * s) (show 0 ≤ t by omega)
      have m0 := Int.emod_nonneg t (show n * s ≠ 0 by omega)
      have m1 := Int.emod_lt_of_pos t (show 0 < n * s by omega)
      have d0 := Int.ediv_nonneg m0 (show 0 ≤ s by omega)
      have d1 := Int.ediv_le_self s m0
      rw [if_neg (by omega), rround_in n f s dl ks ee wd rh sl cp h, Option.bind_some, if_neg (by omega), Int.tdiv_eq_ediv_of_nonneg (a := t) (by omega), w64 (n := t / (n * s)) (by omega) (by omega)]
      by_cases h2 : t / (n * s) < 1048576
      · rw [decide_eq_false (by omega), carillonref16_Place.j0, if_neg (by simp), rround_in n f s dl ks ee wd rh sl cp h, Option.bind_some, if_neg (by omega), Option.bind_some, if_neg (by omega), if_neg (by omega), Int.tdiv_eq_ediv_of_nonneg (a := t) (by omega), w64 (n := t / (n * s)) (by omega) (by omega), Int.tmod_eq_emod_of_nonneg (a := t) (by omega), Int.tdiv_eq_ediv_of_nonneg m0, w64 (n := t % (n * s) / s) (by omega) (by omega), Int.tmod_eq_emod_of_nonneg m0]
        unfold plc; rw [if_pos (by omega)]
      · rw [decide_eq_true (by omega), carillonref16_Place.j0, if_pos rfl]; unfold plc; rw [if_neg (by omega)]
    · rw [if_pos (by omega), carillonref16_Place.j0, if_pos rfl]; unfold plc; rw [if_neg (by omega)]
theorem plc_bd (n s t r p o e : Int) (h : plc n s t = (r, p, o, e)) (r0 : 300 ≤ n * s) (s0 : 300 ≤ s) (s1 : s ≤ 10000) (r1 : n * s ≤ 80000) : 0 ≤ r ∧ r ≤ 1048575 ∧ 0 ≤ p ∧ p ≤ 80000 ∧ 0 ≤ o ∧ o ≤ 10000 ∧ (e = 0 ∨ e = 1) := by
  unfold plc at h
  split at h
  · rename_i hc
    cases h
    have e0 := Int.ediv_nonneg (show 0 ≤ t by omega) (show 0 ≤ n * s by omega)
    have m0 := Int.emod_nonneg t (show n * s ≠ 0 by omega)
    have m1 := Int.emod_lt_of_pos t (show 0 < n * s by omega)
    have d0 := Int.ediv_nonneg m0 (show 0 ≤ s by omega)
    have d1 := Int.ediv_le_self s m0
    have u0 := Int.emod_nonneg (t % (n * s)) (show s ≠ 0 by omega)
    have u1 := Int.emod_lt_of_pos (t % (n * s)) (show 0 < s by omega)
    omega
  · cases h; omega
end Go.Proofs.Ytfaikkhnlioajaa.Plc
