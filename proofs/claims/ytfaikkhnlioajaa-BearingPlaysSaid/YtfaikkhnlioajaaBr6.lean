/- Whatever is put of another one. -/
import Derived.Test.YtfaikkhnlioajaaProg
import Derived.Below
import Derived.Deep.Draws
import Derived.Deep.AppendLies
import Derived.Maps.AppendAt
import Derived.OwnWalk
import Derived.Laws.BytesArg
import Derived.Laws.MakeOwn
import Derived.Laws.OwnMore
import Derived.Deep.OwnRows
import Derived.Tactics
import Derived.Lib.ConvBytes
import Derived.Laws.Slices
import Derived.WalkKit
import Derived.KernelRfl
import Derived.RowKit3
import Derived.Deep.LoopGhost
import Derived.Deep.QuietTactic
import Derived.BigQuiet
import Derived.WideLaws
import Derived.Deep.DeepCutAuto
import Derived.Deep.CutBlock
import Derived.Deep.RegionHeld3
import Derived.Laws.Rows
import Derived.Lib.AppendStr
import Derived.ArgAppend
import Derived.Laws.IdiomCopy
import Derived.OrdersHeld
import Derived.Laws.BitsLemmas
import Derived.RowKit
import Derived.RegionTactic
import Derived.ChangeAlike
import Derived.Outline
import Derived.LoopTactic
import Derived.WalkSpells
import Derived.WalkLawsBesides
import Derived.Lib.Hide
import Derived.StillTailTactics
import Derived.Deep.RegionWith
import Derived.Deep.RegionLaw
import Derived.Deep.DeepFit
import Derived.Deep.DeepMust
import Derived.Test.YtfaikkhnlioajaaWWords
import Derived.Test.YtfaikkhnlioajaaWLast
import Derived.Test.YtfaikkhnlioajaaWTab
import Derived.Test.YtfaikkhnlioajaaWFour
import Derived.Test.YtfaikkhnlioajaaWQPut
import Derived.Test.YtfaikkhnlioajaaWApart
import Derived.Test.YtfaikkhnlioajaaWArr
import Derived.Test.YtfaikkhnlioajaaWZeros
import Derived.Test.YtfaikkhnlioajaaWFoot
import Derived.Test.YtfaikkhnlioajaaWKept
import Derived.Test.YtfaikkhnlioajaaWShare
import Derived.Test.YtfaikkhnlioajaaWN
import Derived.Test.YtfaikkhnlioajaaWFootNe
import Derived.Test.YtfaikkhnlioajaaWAt
import Derived.Test.YtfaikkhnlioajaaWEqStruct
import Derived.Test.YtfaikkhnlioajaaWRepsOne
import Derived.Test.YtfaikkhnlioajaaWInv
import Derived.Test.YtfaikkhnlioajaaWInvWords
import Derived.Test.YtfaikkhnlioajaaWGuard
import Derived.Test.YtfaikkhnlioajaaWNEv
import Derived.Test.YtfaikkhnlioajaaWMore
import Derived.Test.YtfaikkhnlioajaaBr5
namespace Go.Proofs.Ytfaikkhnlioajaa.Br6
open Go.RowKit Go.Proofs.YtfaikkhnlioajaaW.PrintWords Go.Proofs.YtfaikkhnlioajaaW.PrintLast Go.Proofs.YtfaikkhnlioajaaW.PrintMore 
attribute [local go_sem] max2_int min2_int max_two min_two max_three min_three max_four min_four
set_option linter.unusedVariables false
set_option linter.unusedSimpArgs false
open Go.Proofs.Ytfaikkhnlioajaa.QBase Go.Proofs.Ytfaikkhnlioajaa.Sch Go.Proofs.Ytfaikkhnlioajaa.Plc Go.Proofs.Ytfaikkhnlioajaa.Gd1 Go.Proofs.Ytfaikkhnlioajaa.Gd2 Go.Proofs.Ytfaikkhnlioajaa.Gd3 Go.Proofs.Ytfaikkhnlioajaa.Gd4 Go.Proofs.Ytfaikkhnlioajaa.BrP Go.Proofs.Ytfaikkhnlioajaa.Br1 Go.Proofs.Ytfaikkhnlioajaa.Br2 Go.Proofs.Ytfaikkhnlioajaa.Br3 Go.Proofs.Ytfaikkhnlioajaa.Br4 Go.Proofs.Ytfaikkhnlioajaa.Br5 Go.Maps
attribute [local go_sem] cellS1 frozenS1 cellS2 frozenS2 cellS3 frozenS3 cellS4 frozenS4 cellS5 frozenS5 cellS6 frozenS6

/-- What is laid down of another one: what both say, where they meet. -/
def newF (q : Int × Int × Int) (lo hi t : Int) : Int × Int × Int :=
  if q.2.2 = 0 then (match ival_Meet.f q.1 q.2.1 lo hi with | some (p, v, e) => if e = 0 then (p, v, t) else (lo, hi, t) | none => (lo, hi, t)) else (lo, hi, t)
/-- Is something known that was so later? -/
def oldB (q : Option (Int × Int × Int)) (t : Int) : Bool := match q with | some (_, _, a) => decide (t < a) | none => false
def putF (n i kp d : Int) (M : KM) (r lo hi t : Int) : Int × KM :=
  if mayF n i r t = true then
    if R lo hi then
      if oldB (M r) t = true then (10, M) else (0, fun v => if v = r then some (newF (atF n i kp d M r t) lo hi t) else M v)
    else (1, M)
  else (1, M)
theorem KMap.mono {w : World} {bm n m : Nat} {M : KM} (h : KMap w bm n M) (hle : n ≤ m) : KMap w bm m M := by
  obtain ⟨D, ⟨es, cl, h1, h2, h3, h4⟩, h5⟩ := h
  exact ⟨D, ⟨es, cl, h1, h2, Nat.le_trans h3 hle, h4⟩, h5⟩
theorem KMap.ne {w : World} {bm n g : Nat} {M : KM} {cs : Array Value} {t : TypeId} (h : KMap w bm n M) (hg : w.heap[g]? = some (.cells cs t (0, 0))) : g ≠ bm := by
  obtain ⟨D, ⟨es, cl, h1, h2, h3, h4⟩, h5⟩ := h
  rintro rfl
  rw [hg] at h1
  cases h1
theorem KMap.lt {w : World} {bm n : Nat} {M : KM} (h : KMap w bm n M) : bm < w.heap.size := by
  obtain ⟨D, ⟨es, cl, h1, h2, h3, h4⟩, h5⟩ := h
  exact blk_lt h1
theorem IsT.kept {z w w' : World} {g bm : Nat} {n f s dl ks ee wd rh sl cp i : Int} {row : Option Nat} (h : IsT z w g bm n f s dl ks ee wd rh sl cp i) (hg : w.grownBy w' row) (hne : some g ≠ row) : IsT z w' g bm n f s dl ks ee wd rh sl cp i := ⟨blk_grown h.1 hg hne, h.2⟩
theorem meet_R {a b c d p q : Int} (h : ival_Meet.f a b c d = some (p, q, 0)) : R p q := by
  rw [meet_eq] at h
  split at h
  · rename_i hh
    split at h
    · rename_i hl
      cases h
      unfold R at hh ⊢
      unfold mx mn at hl ⊢
      split at hl <;> split at hl <;> omega
    · cases h
  · cases h
theorem newF_R (q : Int × Int × Int) (lo hi t : Int) (h : R lo hi) : R (newF q lo hi t).1 (newF q lo hi t).2.1 ∧ (newF q lo hi t).2.2 = t := by
  unfold newF
  split
  · split
    · split
      · rename_i hm he
        subst he
        exact ⟨meet_R hm, rfl⟩
      · exact ⟨h, rfl⟩
    · exact ⟨h, rfl⟩
  · exact ⟨h, rfl⟩
theorem putF_ok (n i kp d : Int) (M : KM) (r lo hi t : Int) (hM : KOk M) : KOk (putF n i kp d M r lo hi t).2 := by
  unfold putF
  split
  · rename_i hmay
    have hmy := of_decide_eq_true hmay
    split
    · rename_i hR
      split
      · exact hM
      · intro v l h a hv
        dsimp only at hv
        split at hv
        · have hn := newF_R (atF n i kp d M r t) lo hi t hR
          simp only [Option.some.injEq] at hv
          rw [hv] at hn
          dsimp only at hn
          obtain ⟨h1, h2⟩ := hn
          subst h2
          exact ⟨hmy.2.2.2.1, hmy.2.2.2.2, h1⟩
        · exact hM v l h a hv
    · exact hM
  · exact hM
theorem grown_of_below {w w' : World} (row : Option Nat) (h : Below w.heap.size w w') : w.grownBy w' row := ⟨h.os, h.tape, h.output, h.size, fun j hj _ => h.block j hj⟩
theorem put_any (g bm : Nat) (n f s dl ks ee wd rh sl cp i : Int) (r lo hi t : Int) (z w : World) (hI : IsT z w g bm n f s dl ks ee wd rh sl cp i) (k : Nat) (M : KM) (hM : KMap w bm k M) (hMo : KOk M) (hB : Below z.heap.size z w) (hk : k ≤ 100000) (ho : Ok n f s dl ks ee wd rh sl cp) : Calls Try.prog 25 #[.pointer (some ⟨g, 0, none⟩), .int .i64 r, .agg #[.int .i64 lo, .int .i64 hi], .int .i64 t] w fun en w' => en = .returned (.int .i64 (putF n i (2 * (n * s)) (rh + sl) M r lo hi t).1) ∧ KMap w' bm (k + 1) (putF n i (2 * (n * s)) (rh + sl) M r lo hi t).2 ∧ w.grownBy w' (some bm) := by
  have hn : n ≤ 8 := by unfold Ok at ho; omega
  have hbm := KMap.lt hM
  have same : ∀ w', Below w.heap.size w w' → KMap w' bm (k + 1) M ∧ w.grownBy w' (some bm) := fun w' hb => ⟨KMap.mono (KMap.below hM hb) (Nat.le_succ k), grown_of_below _ hb⟩
  have hat : ∀ x y e, atF n i (2 * (n * s)) (rh + sl) M r t = (x, y, e) → ∀ W, IsT z W g bm n f s dl ks ee wd rh sl cp i → KMap W bm k M → Calls Try.prog 26 #[.pointer (some ⟨g, 0, none⟩), .int .i64 r, .int .i64 t] W fun en w' => en = .returned (.tuple #[.agg #[.int .i64 x, .int .i64 y], .int .i64 e]) ∧ Below W.heap.size W w' := fun x y e he W h1 h2 => at_any g bm n f s dl ks ee wd rh sl cp i r t x y e z W h1 k M h2 hMo ho he
  unfold putF
  by_cases hmay : mayF n i r t = true
  · rw [if_pos hmay]
    by_cases hR : R lo hi
    · rw [if_pos hR]
      obtain ⟨x, y, e, he⟩ : ∃ x y e, atF n i (2 * (n * s)) (rh + sl) M r t = (x, y, e) := ⟨_, _, _, rfl⟩
      cases hm : M r with
      | none =>
        have hne : e ≠ 0 := by
          unfold atF at he
          rw [if_pos hmay, hm] at he
          cases he
          decide
        rw [show oldB none t = false from rfl, if_neg (by decide), show newF (atF n i (2 * (n * s)) (rh + sl) M r t) lo hi t = (lo, hi, t) by rw [he]; unfold newF; rw [if_neg hne]]
        exact put_new g bm n f s dl ks ee wd rh sl cp i r lo hi t x y e z w hI k M hM hn hB hk hbm hmay hR hm (hat _ _ _ he) hne
      | some q =>
        obtain ⟨l0, h0, a0⟩ := q
        by_cases hlt : t < a0
        · rw [show oldB (some (l0, h0, a0)) t = true from decide_eq_true hlt, if_pos rfl]
          exact (put_old g bm n f s dl ks ee wd rh sl cp i r lo hi t l0 h0 a0 z w hI k M hM hn hmay hR hm hlt).mono fun en w' ⟨h1, h2⟩ => ⟨h1, same w' h2⟩
        · rw [show oldB (some (l0, h0, a0)) t = false from decide_eq_false hlt, if_neg (by decide)]
          by_cases hne : e = 0
          · subst hne
            obtain ⟨p, v, e2, hme⟩ := meet_some x y lo hi
            by_cases he2 : e2 = 0
            · subst he2
              rw [show newF (atF n i (2 * (n * s)) (rh + sl) M r t) lo hi t = (p, v, t) by rw [he]; unfold newF; rw [if_pos rfl]; dsimp only; rw [hme]; rfl]
              exact put_met g bm n f s dl ks ee wd rh sl cp i r lo hi t l0 h0 a0 x y 0 p v 0 z w hI k M hM hn hB hk hbm hmay hR hm hlt (hat _ _ _ he) hme
            · rw [show newF (atF n i (2 * (n * s)) (rh + sl) M r t) lo hi t = (lo, hi, t) by rw [he]; unfold newF; rw [if_pos rfl]; dsimp only; rw [hme]; exact if_neg he2]
              exact put_apart g bm n f s dl ks ee wd rh sl cp i r lo hi t l0 h0 a0 x y 0 p v e2 z w hI k M hM hn hB hk hbm hmay hR hm hlt (hat _ _ _ he) hme he2
          · rw [show newF (atF n i (2 * (n * s)) (rh + sl) M r t) lo hi t = (lo, hi, t) by rw [he]; unfold newF; rw [if_neg hne]]
            exact put_gone g bm n f s dl ks ee wd rh sl cp i r lo hi t l0 h0 a0 x y e z w hI k M hM hn hB hk hbm hmay hR hm hlt (hat _ _ _ he) hne
    · rw [if_neg hR]
      exact (put_form g bm n f s dl ks ee wd rh sl cp i r lo hi t z w hI hmay hR).mono fun en w' ⟨h1, h2⟩ => ⟨h1, same w' h2⟩
  · rw [if_neg hmay]
    exact (put_bad g bm n f s dl ks ee wd rh sl cp i r lo hi t z w hI (Bool.eq_false_iff.2 hmay)).mono fun en w' ⟨h1, h2⟩ => ⟨h1, same w' h2⟩
end Go.Proofs.Ytfaikkhnlioajaa.Br6
