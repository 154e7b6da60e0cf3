/- The table of the reference. -/
import Derived.Test.YtfaikkhnlioajaaProg
import Derived.Below
import Derived.Deep.Draws
import Derived.Deep.AppendLies
import Derived.Maps.AppendAt
import Derived.OwnWalk
import Derived.Laws.BytesArg
import Derived.Laws.MakeOwn
import Derived.Laws.OwnMore
import Derived.Deep.OwnRows
import Derived.Tactics
import Derived.Lib.ConvBytes
import Derived.Laws.Slices
import Derived.WalkKit
import Derived.KernelRfl
import Derived.RowKit3
import Derived.Deep.LoopGhost
import Derived.Deep.QuietTactic
import Derived.BigQuiet
import Derived.WideLaws
import Derived.Deep.DeepCutAuto
import Derived.Deep.CutBlock
import Derived.Deep.RegionHeld3
import Derived.Laws.Rows
import Derived.Lib.AppendStr
import Derived.ArgAppend
import Derived.Laws.IdiomCopy
import Derived.OrdersHeld
import Derived.Laws.BitsLemmas
import Derived.RowKit
import Derived.RegionTactic
import Derived.ChangeAlike
import Derived.Outline
import Derived.LoopTactic
import Derived.WalkSpells
import Derived.WalkLawsBesides
import Derived.Lib.Hide
import Derived.StillTailTactics
import Derived.Deep.RegionWith
import Derived.Deep.RegionLaw
import Derived.Deep.DeepFit
import Derived.Deep.DeepMust
import Derived.Test.YtfaikkhnlioajaaWWords
import Derived.Test.YtfaikkhnlioajaaWLast
import Derived.Test.YtfaikkhnlioajaaWTab
import Derived.Test.YtfaikkhnlioajaaWFour
import Derived.Test.YtfaikkhnlioajaaWQPut
import Derived.Test.YtfaikkhnlioajaaWApart
import Derived.Test.YtfaikkhnlioajaaWArr
import Derived.Test.YtfaikkhnlioajaaWZeros
import Derived.Test.YtfaikkhnlioajaaWFoot
import Derived.Test.YtfaikkhnlioajaaWKept
import Derived.Test.YtfaikkhnlioajaaWShare
import Derived.Test.YtfaikkhnlioajaaWN
import Derived.Test.YtfaikkhnlioajaaWFootNe
import Derived.Test.YtfaikkhnlioajaaWAt
import Derived.Test.YtfaikkhnlioajaaWEqStruct
import Derived.Test.YtfaikkhnlioajaaWRepsOne
import Derived.Test.YtfaikkhnlioajaaWInv
import Derived.Test.YtfaikkhnlioajaaWInvWords
import Derived.Test.YtfaikkhnlioajaaWGuard
import Derived.Test.YtfaikkhnlioajaaWNEv
import Derived.Test.YtfaikkhnlioajaaWMore
import Derived.Test.YtfaikkhnlioajaaBr4
namespace Go.Proofs.Ytfaikkhnlioajaa.Ra
open Go.RowKit Go.Proofs.YtfaikkhnlioajaaW.PrintWords Go.Proofs.YtfaikkhnlioajaaW.PrintLast Go.Proofs.YtfaikkhnlioajaaW.PrintMore 
attribute [local go_sem] max2_int min2_int max_two min_two max_three min_three max_four min_four
set_option linter.unusedVariables false
set_option linter.unusedSimpArgs false
open Go.Proofs.Ytfaikkhnlioajaa.QBase Go.Proofs.Ytfaikkhnlioajaa.Sch Go.Proofs.Ytfaikkhnlioajaa.Plc Go.Proofs.Ytfaikkhnlioajaa.Gd1 Go.Proofs.Ytfaikkhnlioajaa.Gd3 Go.Proofs.Ytfaikkhnlioajaa.Gd4 Go.Proofs.Ytfaikkhnlioajaa.BrP Go.Proofs.Ytfaikkhnlioajaa.Br1 Go.Proofs.Ytfaikkhnlioajaa.Br2 Go.Proofs.Ytfaikkhnlioajaa.Br4 Go.Maps
attribute [local go_sem] cellS1 frozenS1 cellS2 frozenS2 cellS3 frozenS3 cellS4 frozenS4 cellS5 frozenS5 cellS6 frozenS6

/-- What is known of one, as the reference's list holds it. -/
def kv (q : Option (Int × Int × Int)) : List Value := match q with | none => [.bool false, .int .i64 0, .int .i64 0, .int .i64 0] | some (lo, hi, a) => [.bool true, .int .i64 lo, .int .i64 hi, .int .i64 a]
theorem kv_len (q : Option (Int × Int × Int)) : (kv q).length = 4 := by cases q <;> rfl
def kvl (M : KM) (n : Nat) : List Value := (List.range n).flatMap fun (j : Nat) => kv (M (j : Int))
theorem kvl_succ (M : KM) (n : Nat) : kvl M (n + 1) = kvl M n ++ kv (M (n : Int)) := by unfold kvl; rw [List.range_succ]; simp
theorem kvl_len (M : KM) (n : Nat) : (kvl M n).length = n * 4 := by
  induction n with
  | zero => rfl
  | succ n ih => rw [kvl_succ, List.length_append, ih, kv_len]; omega
theorem kvl_get (M : KM) (n j c : Nat) (hj : j < n) (hc : c < 4) : (kvl M n)[j * 4 + c]? = (kv (M (j : Int)))[c]? := by
  induction n with
  | zero => omega
  | succ n ih =>
    rw [kvl_succ]
    by_cases h : j < n
    · rw [List.getElem?_append_left (by rw [kvl_len]; omega), ih h]
    · obtain rfl : j = n := by omega
      rw [List.getElem?_append_right (by rw [kvl_len]; omega), kvl_len, show j * 4 + c - j * 4 = c by omega]
theorem kvl_put (M : KM) (n r : Nat) (lo hi a : Int) (hr : r < n) : ((((kvl M n).set (r * 4) (.bool true)).set (r * 4 + 1) (.int .i64 lo)).set (r * 4 + 2) (.int .i64 hi)).set (r * 4 + 3) (.int .i64 a) = kvl (fun v => if v = (r : Int) then some (lo, hi, a) else M v) n := by
  apply List.ext_getElem?
  intro k
  by_cases hk : k < n * 4
  · obtain ⟨j, c, hj, hc, rfl⟩ : ∃ j c, j < n ∧ c < 4 ∧ k = j * 4 + c := ⟨k / 4, k % 4, by omega, by omega, by omega⟩
    rw [kvl_get _ n j c hj hc]
    simp only [List.getElem?_set, List.length_set, kvl_len]
    by_cases hjr : j = r
    · subst hjr
      rw [if_pos rfl]
      match c, hc with
      | 0, _ => rw [if_neg (by omega), if_neg (by omega), if_neg (by omega), if_pos (by omega), if_pos (by omega)]; rfl
      | 1, _ => rw [if_neg (by omega), if_neg (by omega), if_pos (by omega), if_pos (by omega)]; rfl
      | 2, _ => rw [if_neg (by omega), if_pos (by omega), if_pos (by omega)]; rfl
      | 3, _ => rw [if_pos (by omega), if_pos (by omega)]; rfl
    · rw [if_neg (by omega), if_neg (by omega), if_neg (by omega), if_neg (by omega), kvl_get _ n j c hj hc, if_neg (by omega)]
  · rw [List.getElem?_eq_none (by simp only [List.length_set, kvl_len]; omega), List.getElem?_eq_none (by rw [kvl_len]; omega)]
/-- The reference's table in memory. -/
def IsRf (z w : World) (h lb : Nat) (n f s dl ks ee wd rh sl cp i : Int) (M : KM) : Prop := w.heap[h]? = some (.cells #[.int .i64 n, .int .i64 f, .int .i64 s, .int .i64 dl, .int .i64 ks, .int .i64 ee, .int .i64 wd, .int .i64 rh, .int .i64 sl, .int .i64 cp, .int .i64 i, .slice (some ⟨lb, 0, none⟩) n.toNat n.toNat] 114 (0, 0)) ∧ w.heap[lb]? = some (.cells (kvl M n.toNat).toArray 116 (0, 0)) ∧ z.heap.size ≤ h ∧ z.heap.size ≤ lb
theorem IsRf.below {z w w' : World} {h lb : Nat} {n f s dl ks ee wd rh sl cp i : Int} {M : KM} (hh : IsRf z w h lb n f s dl ks ee wd rh sl cp i M) (hb : Below w.heap.size w w') : IsRf z w' h lb n f s dl ks ee wd rh sl cp i M := ⟨blk_below hh.1 hb, blk_below hh.2.1 hb, hh.2.2⟩
theorem IsRf.alloc {z w : World} {h lb : Nat} {n f s dl ks ee wd rh sl cp i : Int} {M : KM} (hh : IsRf z w h lb n f s dl ks ee wd rh sl cp i M) (o : Obj) : IsRf z (w.alloc o) h lb n f s dl ks ee wd rh sl cp i M := ⟨blk_alloc hh.1 o, blk_alloc hh.2.1 o, hh.2.2⟩
theorem IsRf.drewN {z w : World} {h lb : Nat} {n f s dl ks ee wd rh sl cp i : Int} {M : KM} (hh : IsRf z w h lb n f s dl ks ee wd rh sl cp i M) (m : Nat) : IsRf z (w.drewN m) h lb n f s dl ks ee wd rh sl cp i M := hh
theorem IsRf.drew {z w : World} {h lb : Nat} {n f s dl ks ee wd rh sl cp i : Int} {M : KM} (hh : IsRf z w h lb n f s dl ks ee wd rh sl cp i M) : IsRf z w.drew h lb n f s dl ks ee wd rh sl cp i M := hh
theorem IsRf.far {z w : World} {h lb : Nat} {n f s dl ks ee wd rh sl cp i : Int} {M : KM} (hh : IsRf z w h lb n f s dl ks ee wd rh sl cp i M) {p : Addr} (h1 : h ≠ p.block) (h2 : lb ≠ p.block) (u : Value) : IsRf z (w.setCell p u) h lb n f s dl ks ee wd rh sl cp i M := ⟨blk_far hh.1 h1 u, blk_far hh.2.1 h2 u, hh.2.2⟩
/-- What is read of one. -/
def isB (q : Option (Int × Int × Int)) : Bool := q.isSome
def q3 (q : Option (Int × Int × Int)) : Int × Int × Int := q.getD (0, 0, 0)
theorem kv_eq (q : Option (Int × Int × Int)) : kv q = [.bool (isB q), .int .i64 (q3 q).1, .int .i64 (q3 q).2.1, .int .i64 (q3 q).2.2] := by
  cases q with
  | none => rfl
  | some q => rfl
theorem IsRf.at {z w : World} {h lb : Nat} {n f s dl ks ee wd rh sl cp i : Int} {M : KM} (hh : IsRf z w h lb n f s dl ks ee wd rh sl cp i M) (r : Nat) (hr : r < n.toNat) (c : Nat) (hc : c < 4) : w.cell? ⟨lb, r * 4 + c, none⟩ = [Value.bool (isB (M (r : Int))), .int .i64 (q3 (M (r : Int))).1, .int .i64 (q3 (M (r : Int))).2.1, .int .i64 (q3 (M (r : Int))).2.2][c]? := by
  rw [blk_cell hh.2.1, List.getElem?_toArray, kvl_get M n.toNat r c hr hc, kv_eq]
theorem rmay_yes (h lb : Nat) (n f s dl ks ee wd rh sl cp i : Int) (r t : Int) (z w : World) (M : KM) (hI : IsRf z w h lb n f s dl ks ee wd rh sl cp i M) (h0 : 0 ≤ r) (h1 : r < n) (h2 : ¬ r = i) (h3 : 0 ≤ t) (h4 : t ≤ 1099511627776) : Calls Try.prog 59 #[.pointer (some ⟨h, 0, none⟩), .int .i64 r, .int .i64 t] w fun en w' => en = .returned (.bool true) ∧ w' = w := by
  have c0 : w.cell? ⟨h, 0, none⟩ = some (.int .i64 n) := (blk_cell hI.1 0).trans rfl
  have c10 : w.cell? ⟨h, 10, none⟩ = some (.int .i64 i) := (blk_cell hI.1 10).trans rfl
  clear hI
  have h2b : (r != i) = true := bne_iff_ne.2 h2
  go_enter Try.func59, Try.ntmps59
  go_wp2
  go_ret
  exact ⟨rfl, rfl⟩
theorem rmay_no0 (h lb : Nat) (n f s dl ks ee wd rh sl cp i : Int) (r t : Int) (z w : World) (M : KM) (hI : IsRf z w h lb n f s dl ks ee wd rh sl cp i M)  (hq : r < 0) : Calls Try.prog 59 #[.pointer (some ⟨h, 0, none⟩), .int .i64 r, .int .i64 t] w fun en w' => en = .returned (.bool false) ∧ w' = w := by
  have c0 : w.cell? ⟨h, 0, none⟩ = some (.int .i64 n) := (blk_cell hI.1 0).trans rfl
  have c10 : w.cell? ⟨h, 10, none⟩ = some (.int .i64 i) := (blk_cell hI.1 10).trans rfl
  clear hI
  go_enter Try.func59, Try.ntmps59
  go_wp2
  go_ret
  exact ⟨rfl, rfl⟩
theorem rmay_no1 (h lb : Nat) (n f s dl ks ee wd rh sl cp i : Int) (r t : Int) (z w : World) (M : KM) (hI : IsRf z w h lb n f s dl ks ee wd rh sl cp i M) (h0 : 0 ≤ r) (hq : ¬ r < n) : Calls Try.prog 59 #[.pointer (some ⟨h, 0, none⟩), .int .i64 r, .int .i64 t] w fun en w' => en = .returned (.bool false) ∧ w' = w := by
  have c0 : w.cell? ⟨h, 0, none⟩ = some (.int .i64 n) := (blk_cell hI.1 0).trans rfl
  have c10 : w.cell? ⟨h, 10, none⟩ = some (.int .i64 i) := (blk_cell hI.1 10).trans rfl
  clear hI
  go_enter Try.func59, Try.ntmps59
  go_wp2
  go_ret
  exact ⟨rfl, rfl⟩
theorem rmay_no2 (h lb : Nat) (n f s dl ks ee wd rh sl cp i : Int) (r t : Int) (z w : World) (M : KM) (hI : IsRf z w h lb n f s dl ks ee wd rh sl cp i M) (h0 : 0 ≤ r) (h1 : r < n) (hq : r = i) : Calls Try.prog 59 #[.pointer (some ⟨h, 0, none⟩), .int .i64 r, .int .i64 t] w fun en w' => en = .returned (.bool false) ∧ w' = w := by
  have c0 : w.cell? ⟨h, 0, none⟩ = some (.int .i64 n) := (blk_cell hI.1 0).trans rfl
  have c10 : w.cell? ⟨h, 10, none⟩ = some (.int .i64 i) := (blk_cell hI.1 10).trans rfl
  clear hI
  subst hq
  go_enter Try.func59, Try.ntmps59
  go_wp2
  go_ret
  exact ⟨rfl, rfl⟩
theorem rmay_no3 (h lb : Nat) (n f s dl ks ee wd rh sl cp i : Int) (r t : Int) (z w : World) (M : KM) (hI : IsRf z w h lb n f s dl ks ee wd rh sl cp i M) (h0 : 0 ≤ r) (h1 : r < n) (h2 : ¬ r = i) (hq : t < 0) : Calls Try.prog 59 #[.pointer (some ⟨h, 0, none⟩), .int .i64 r, .int .i64 t] w fun en w' => en = .returned (.bool false) ∧ w' = w := by
  have c0 : w.cell? ⟨h, 0, none⟩ = some (.int .i64 n) := (blk_cell hI.1 0).trans rfl
  have c10 : w.cell? ⟨h, 10, none⟩ = some (.int .i64 i) := (blk_cell hI.1 10).trans rfl
  clear hI
  have h2b : (r != i) = true := bne_iff_ne.2 h2
  go_enter Try.func59, Try.ntmps59
  go_wp2
  go_ret
  exact ⟨rfl, rfl⟩
theorem rmay_no4 (h lb : Nat) (n f s dl ks ee wd rh sl cp i : Int) (r t : Int) (z w : World) (M : KM) (hI : IsRf z w h lb n f s dl ks ee wd rh sl cp i M) (h0 : 0 ≤ r) (h1 : r < n) (h2 : ¬ r = i) (h3 : 0 ≤ t) (hq : 1099511627776 < t) : Calls Try.prog 59 #[.pointer (some ⟨h, 0, none⟩), .int .i64 r, .int .i64 t] w fun en w' => en = .returned (.bool false) ∧ w' = w := by
  have c0 : w.cell? ⟨h, 0, none⟩ = some (.int .i64 n) := (blk_cell hI.1 0).trans rfl
  have c10 : w.cell? ⟨h, 10, none⟩ = some (.int .i64 i) := (blk_cell hI.1 10).trans rfl
  clear hI
  have h2b : (r != i) = true := bne_iff_ne.2 h2
  have h4b : decide (t ≤ 1099511627776) = false := decide_eq_false (by omega)
  go_enter Try.func59, Try.ntmps59
  go_wp2
  go_ret
  exact ⟨rfl, rfl⟩
theorem rmay_any (h lb : Nat) (n f s dl ks ee wd rh sl cp i : Int) (r t : Int) (z w : World) (M : KM) (hI : IsRf z w h lb n f s dl ks ee wd rh sl cp i M) (b : Bool) (hb : mayF n i r t = b) : Calls Try.prog 59 #[.pointer (some ⟨h, 0, none⟩), .int .i64 r, .int .i64 t] w fun en w' => en = .returned (.bool b) ∧ w' = w := by
  cases b with
  | false =>
    have h' := of_decide_eq_false hb
    by_cases h0 : 0 ≤ r
    · by_cases h1 : r < n
      · by_cases h2 : r = i
        · exact rmay_no2 h lb n f s dl ks ee wd rh sl cp i r t z w M hI h0 h1 h2
        · by_cases h3 : 0 ≤ t
          · exact rmay_no4 h lb n f s dl ks ee wd rh sl cp i r t z w M hI h0 h1 h2 h3 (by omega)
          · exact rmay_no3 h lb n f s dl ks ee wd rh sl cp i r t z w M hI h0 h1 h2 (by omega)
      · exact rmay_no1 h lb n f s dl ks ee wd rh sl cp i r t z w M hI h0 h1
    · exact rmay_no0 h lb n f s dl ks ee wd rh sl cp i r t z w M hI (by omega)
  | true =>
    have h' := of_decide_eq_true hb
    exact rmay_yes h lb n f s dl ks ee wd rh sl cp i r t z w M hI h'.1 h'.2.1 h'.2.2.1 h'.2.2.2.1 h'.2.2.2.2
end Go.Proofs.Ytfaikkhnlioajaa.Ra
