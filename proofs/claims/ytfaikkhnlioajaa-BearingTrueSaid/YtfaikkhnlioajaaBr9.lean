/- Of whom something is known. -/
import Derived.Test.YtfaikkhnlioajaaProg
import Derived.Below
import Derived.Deep.Draws
import Derived.Deep.AppendLies
import Derived.Maps.AppendAt
import Derived.OwnWalk
import Derived.Laws.BytesArg
import Derived.Laws.MakeOwn
import Derived.Laws.OwnMore
import Derived.Deep.OwnRows
import Derived.Tactics
import Derived.Lib.ConvBytes
import Derived.Laws.Slices
import Derived.WalkKit
import Derived.KernelRfl
import Derived.RowKit3
import Derived.Deep.LoopGhost
import Derived.Deep.QuietTactic
import Derived.BigQuiet
import Derived.WideLaws
import Derived.Deep.DeepCutAuto
import Derived.Deep.CutBlock
import Derived.Deep.RegionHeld3
import Derived.Laws.Rows
import Derived.Lib.AppendStr
import Derived.ArgAppend
import Derived.Laws.IdiomCopy
import Derived.OrdersHeld
import Derived.Laws.BitsLemmas
import Derived.RowKit
import Derived.RegionTactic
import Derived.ChangeAlike
import Derived.Outline
import Derived.LoopTactic
import Derived.WalkSpells
import Derived.WalkLawsBesides
import Derived.Lib.Hide
import Derived.StillTailTactics
import Derived.Deep.RegionWith
import Derived.Deep.RegionLaw
import Derived.Deep.DeepFit
import Derived.Deep.DeepMust
import Derived.Test.YtfaikkhnlioajaaWWords
import Derived.Test.YtfaikkhnlioajaaWLast
import Derived.Test.YtfaikkhnlioajaaWTab
import Derived.Test.YtfaikkhnlioajaaWFour
import Derived.Test.YtfaikkhnlioajaaWQPut
import Derived.Test.YtfaikkhnlioajaaWApart
import Derived.Test.YtfaikkhnlioajaaWArr
import Derived.Test.YtfaikkhnlioajaaWZeros
import Derived.Test.YtfaikkhnlioajaaWFoot
import Derived.Test.YtfaikkhnlioajaaWKept
import Derived.Test.YtfaikkhnlioajaaWShare
import Derived.Test.YtfaikkhnlioajaaWN
import Derived.Test.YtfaikkhnlioajaaWFootNe
import Derived.Test.YtfaikkhnlioajaaWAt
import Derived.Test.YtfaikkhnlioajaaWEqStruct
import Derived.Test.YtfaikkhnlioajaaWRepsOne
import Derived.Test.YtfaikkhnlioajaaWInv
import Derived.Test.YtfaikkhnlioajaaWInvWords
import Derived.Test.YtfaikkhnlioajaaWGuard
import Derived.Test.YtfaikkhnlioajaaWNEv
import Derived.Test.YtfaikkhnlioajaaWMore
import Derived.Maps.AppendAt
import Derived.Test.YtfaikkhnlioajaaBr8
namespace Go.Proofs.Ytfaikkhnlioajaa.Br9
open Go.RowKit Go.Proofs.YtfaikkhnlioajaaW.PrintWords Go.Proofs.YtfaikkhnlioajaaW.PrintLast Go.Proofs.YtfaikkhnlioajaaW.PrintMore 
attribute [local go_sem] max2_int min2_int max_two min_two max_three min_three max_four min_four
set_option linter.unusedVariables false
set_option linter.unusedSimpArgs false
open Go.Proofs.Ytfaikkhnlioajaa.QBase Go.Proofs.Ytfaikkhnlioajaa.Sch Go.Proofs.Ytfaikkhnlioajaa.Plc Go.Proofs.Ytfaikkhnlioajaa.Gd1 Go.Proofs.Ytfaikkhnlioajaa.Gd2 Go.Proofs.Ytfaikkhnlioajaa.Gd3 Go.Proofs.Ytfaikkhnlioajaa.Gd4 Go.Proofs.Ytfaikkhnlioajaa.BrP Go.Proofs.Ytfaikkhnlioajaa.Br1 Go.Proofs.Ytfaikkhnlioajaa.Br2 Go.Proofs.Ytfaikkhnlioajaa.Br3 Go.Proofs.Ytfaikkhnlioajaa.Br4 Go.Proofs.Ytfaikkhnlioajaa.Br5 Go.Proofs.Ytfaikkhnlioajaa.Br6 Go.Proofs.Ytfaikkhnlioajaa.Br7 Go.Proofs.Ytfaikkhnlioajaa.Br8 Go.Maps
attribute [local go_sem] cellS1 frozenS1 cellS2 frozenS2 cellS3 frozenS3 cellS4 frozenS4 cellS5 frozenS5 cellS6 frozenS6
open Go.Shelf
attribute [local go_sem] Oper.semAt_some

theorem info3e : (Try.prog.info? 3).map (fun i => (i.zero, i.size, i.bytes)) = some (some (.int .i64 0), 1, 8) := by kernel_rfl
theorem cells_new (w : World) (cs : Array Value) (t : TypeId) (j : Nat) (u : Value) (h : cs.toList[j]? = some u) : (w.alloc (.cells cs t (0, 0))).cell? ((⟨w.heap.size, 0, none⟩ : Addr).add j) = some u := by
  have := blk_cell (blk_new w (.cells cs t (0, 0))) j
  rw [show ((⟨w.heap.size, 0, none⟩ : Addr).add j) = ⟨w.heap.size, j, none⟩ by simp [Addr.add] <;> omega, this]
  simpa using h
/-- A box that holds a slice of the call's own. -/
def Row (n0 B : Nat) (T e : TypeId) (size m : Nat) (xs : List Value) (W : World) : Prop := ∃ v, Boxed W B T v ∧ W.ownsRow n0 e size v m xs
theorem Row.grown {n0 B : Nat} {T e : TypeId} {size m : Nat} {xs : List Value} {X Y : World} {row : Option Nat} (h : Row n0 B T e size m xs X) (hg : X.grownBy Y row) (hr : ∀ r, row = some r → ∃ o : Obj, X.heap[r]? = some o ∧ o.isCells = false) : Row n0 B T e size m xs Y := by
  obtain ⟨v, h1, h2⟩ := h
  refine ⟨v, h1.kept hg (fun e => ?_), h2.kept hg ?_⟩
  · obtain ⟨o, ho, hc⟩ := hr _ e.symm
    rw [show X.heap[B]? = _ from h1] at ho
    cases ho
    cases hc
  · rcases h2.2 with ⟨rfl, _⟩ | ⟨b, cap, cur, rfl, _, hgb, _⟩
    · exact Or.inl rfl
    · refine Or.inr (fun e' => ?_)
      obtain ⟨o, ho, hc⟩ := hr b (by rw [← e']; rfl)
      rw [hgb] at ho
      cases ho
      cases hc
theorem row_appended {W w1 : World} {n1 B : Nat} {t e : TypeId} {size : Nat} {v v' : Value} {k m : Nat} {xs ys : List Value} {tmp : Obj} (hv : Boxed W B t v) (hte : t ≠ e) (hrow : W.ownsRow n1 e size v k xs) (hn : n1 ≤ W.heap.size) (hown' : w1.ownsRow n1 e size v' m ys) (hgrow : (W.alloc tmp).grownBy w1 v.ownBlock) :
    Boxed w1 B t v ∧ Boxed (w1.setCell ⟨B, 0, none⟩ v') B t v' ∧ (w1.setCell ⟨B, 0, none⟩ v').ownsRow n1 e size v' m ys ∧ KeepsOthers W (w1.setCell ⟨B, 0, none⟩ v') ∧ (∀ j, j < W.heap.size → j < n1 ∨ (∃ cs t', t' ≠ e ∧ W.heap[j]? = some (.cells cs t' (0, 0))) → j ≠ B → (w1.setCell ⟨B, 0, none⟩ v').heap[j]? = W.heap[j]?) ∧ (∀ n0, n0 ≤ n1 → n0 ≤ B → Below n0 W (w1.setCell ⟨B, 0, none⟩ v')) := by
  have hv1 : Boxed w1 B t v := (hv.alloc tmp).kept hgrow (hv.not_row hte hrow)
  have hrw : ∀ j, some j = v.ownBlock → n1 ≤ j ∧ ∃ cs, W.heap[j]? = some (.cells cs e (0, 0)) := fun j ej => by
    rcases hrow.2 with ⟨rfl, _⟩ | ⟨g, cap, cur, rfl, hb, hgb, _⟩
    · simp [Value.ownBlock] at ej
    · obtain rfl : g = j := by simpa [Value.ownBlock] using ej.symm
      exact ⟨hb, cur, hgb⟩
  have hsz : W.heap.size ≤ w1.heap.size := Nat.le_trans (by simp) hgrow.size
  have same : ∀ j, j < W.heap.size → some j ≠ v.ownBlock → w1.heap[j]? = W.heap[j]? := fun j hj hne => (hgrow.block j (by simp; omega) hne).trans (Below.heap_alloc W tmp j hj)
  refine ⟨hv1, hv1.set v', hown'.kept (grownBy_setCell' w1 B v') (.inr (hv1.not_row hte hown').symm), ?_, ?_, ?_⟩
  · refine ⟨Nat.le_trans hsz (by simp), fun j o hj ho => ?_⟩
    have hlt := blk_lt hj
    refine ((Below.heap_setCell _ _ _ j (fun ej => ?_)).trans (same j hlt (fun ej => ?_))).trans hj
    · rw [show j = B from ej, show W.heap[B]? = _ from hv] at hj
      cases hj
      cases ho
    · obtain ⟨_, cs, hcs⟩ := hrw j ej
      rw [hcs] at hj
      cases hj
      cases ho
  · intro j hj hor hne
    refine (Below.heap_setCell _ _ _ j hne).trans (same j hj (fun ej => ?_))
    obtain ⟨h1, cs, hcs⟩ := hrw j ej
    rcases hor with h | ⟨cs', t', hte', h⟩
    · omega
    · rw [hcs] at h
      cases h
      exact hte' rfl
  · intro n0 h0 hB
    exact ⟨hgrow.os, hgrow.tape, hgrow.output, Nat.le_trans hsz (by simp), fun j hj => (Below.heap_setCell _ _ _ j (by show j ≠ B; omega)).trans (same j (by omega) (fun ej => by have := (hrw j ej).1; omega))⟩
def freshV (l : List (Int × Int × Int)) : List Value := l.map (fun x => .int .i64 x.1)
set_option maxRecDepth 100000 in
set_option maxHeartbeats 8000000 in
theorem fresh_ok (g bm : Nat) (n f s dl ks ee wd rh sl cp i : Int) (k : Nat) (M : KM) (t : Int) (z w : World) (hI : IsT z w g bm n f s dl ks ee wd rh sl cp i) (hM : KMap w bm k M) (hMo : KOk M) (hk : Ok n f s dl ks ee wd rh sl cp) :
    Calls Try.prog 31 #[.pointer (some ⟨g, 0, none⟩), .int .i64 t] w fun en w' => ∃ v, en = .returned v ∧ w'.ownsRow w.heap.size 3 1 v (upto n i (2 * (n * s)) (rh + sl) M t n.toNat).length (freshV (upto n i (2 * (n * s)) (rh + sl) M t n.toNat)) ∧ Below w.heap.size w w' := by
  obtain ⟨i0, hi, hz0, hz1, hz2⟩ := info_parts info3e
  have HI := Aside0.mk hI
  have HM := Aside0.mk hM
  have HMo := Aside0.mk hMo
  have HK := Aside0.mk hk
  clear hI hM hMo hk
  refine (callsIn_wide (n := 10)).1 (callsIn_of_wp_marks Try.func31 rfl trivial (wpIn_wide.2 ?_))
  simp only [Try.ntmps31, List.size_toArray, List.length_cons, List.length_nil, Nat.reduceAdd, Nat.reduceSub, Array.replicate_succ, Array.replicate_zero, List.push_toArray, List.append_toArray, List.nil_append, List.cons_append]
  go_wp2_with (first | (go_at_call 53; go_loud (refine (none_ok g bm n f s dl ks ee wd rh sl cp i z _ HI.out).mono ?_; rintro en w1 ⟨rfl, e1⟩; rw [e1]; clear e1)) | (go_at_call 58; go_loud (refine (all_ok g t _).mono ?_; rintro en w1 ⟨rfl, e1⟩; rw [e1]; clear e1)))
  refine wp_gen (fun W => W.heap.size = w.heap.size + 3 ∧ Below w.heap.size w W ∧ Boxed W w.heap.size 48 (.slice none 0 0) ∧ W.heap[w.heap.size + 1]? = some (.cells #[.pointer (some ⟨g, 0, none⟩)] 55 (0, 0)) ∧ W.heap[w.heap.size + 1 + 1]? = some (.cells #[.int .i64 t] 2 (0, 0))) ⟨by simp, below_alloc (below_alloc (below_alloc (Below.refl _ _) _) _) _, Boxed.alloc (Boxed.alloc (Boxed.new w 48 (.slice none 0 0)) _) _, blk_alloc (by have := blk_new (w.alloc (.cells #[.slice none 0 0] 48)) (.cells #[.pointer (some ⟨g, 0, none⟩)] 55 (0, 0)); simpa using this) _, by have := blk_new ((w.alloc (.cells #[.slice none 0 0] 48)).alloc (.cells #[.pointer (some ⟨g, 0, none⟩)] 55)) (.cells #[.int .i64 t] 2 (0, 0)); simpa using this⟩ ?_
  rintro W0 ⟨hsz, hB0, hn0, hp0, hp1⟩
  have hI0 := IsT.below HI.out hB0
  have hM0 := KMap.below HM.out hB0
  have hgl := blk_lt HI.out.1
  have hbl := KMap.lt HM.out
  refine (wpIn_wide (n := 10)).1 (wpIn_rangeFunc_ownH rfl (by omega) (gf := 75) (lb := #[.pointer (some ⟨w.heap.size + 1, 0, none⟩), .pointer (some ⟨w.heap.size + 1 + 1, 0, none⟩)]) rfl trivial (enters_of Try.func75 (by kernel_rfl) rfl)
    (all_stops g bm n f s dl ks ee wd rh sl cp i (w.heap.size + 1) (w.heap.size + 1 + 1) k M t 9 (by omega) z W0 hI0 hM0 hp0 hp1 HMo.out HK.out) (fun h k => h.trans k) (keepOn_b (by rintro j (rfl | rfl | rfl | rfl) <;> omega)) (Below.refl _ _) (fun _ => rfl)
    (fun pre W => Row W0.heap.size w.heap.size 48 3 1 pre.length (freshV pre) W ∧ Below w.heap.size w W ∧ W0.heap.size ≤ W.heap.size)
    (fun _ _ _ => False)
    (fun s X Y row hs hg hr => ⟨hs.1.grown hg (fun r e => (hr r e).2), hs.2.1.grown hg hs.2.1.size (fun j e => by have := (hr j e).1; omega), Nat.le_trans hs.2.2 hg.size⟩)
    (fun _ _ _ _ _ hs _ _ => hs.elim)
    ⟨⟨_, hn0, World.ownsRow_nil _ _ _ _⟩, hB0, Nat.le_refl _⟩
    (fun x a' W => a' = { tmps := #[.pointer (some ⟨g, 0, none⟩), .int .i64 t, undef, undef, .slice none 0 0, .pointer (some ⟨w.heap.size, 0, none⟩), .int .i64 x.1, .pointer (some ⟨g, 0, none⟩), .bool false, .pointer (some ⟨g, 0, none⟩), .int .i64 t, .func (.func 75) #[] #[.pointer (some ⟨w.heap.size + 1, 0, none⟩), .pointer (some ⟨w.heap.size + 1 + 1, 0, none⟩)], .int .i64 x.1, .agg #[.int .i64 x.2.1, .int .i64 x.2.2], undef, undef, undef, undef, undef], defers := [] }) (fun x a' _ X Y row hs hg hr => hs) ?assign ?body ?done ?stop)
  case assign =>
    rintro l pre x W K hi hK
    gi_wp2
    exact hK _ _ (KeepsFrom.refl _ _) (KeepOn.refl _ _) hi rfl
  case body =>
    rintro l pre x a' W hl ⟨r, hr⟩ ⟨⟨v, hv, hrow⟩, hB, hsW⟩ rfl hlt
    have hT : ∀ j, T4 g bm (w.heap.size + 1) (w.heap.size + 1 + 1) j → j < W.heap.size ∧ j ≠ w.heap.size := by rintro j (rfl | rfl | rfl | rfl) <;> omega
    have hc := hv.cell
    have hf := hv.frozen
    have hle : w.heap.size ≤ w.heap.size := Nat.le_refl _
    have HTT := Aside0.mk hT
    clear hT
    gi_wp2_with (first | (gi_at_builtin; refine wpListIn_append_own _ rfl _ _ 48 rfl W0.heap.size 3 i0 (.int .i64 0) 1 8 Try.underlying48 hi hz0 hz1 hz2 rfl (by decide) _ _ _ rfl (hrow.alloc _) ⟨W.heap.size, 0, none⟩ 1 1 [.int .i64 x.1] rfl rfl (cell_one_new _ _ _) (by simp [Value.oneCell']) (by unfold maxLen; omega) (by omega) (by simp; omega) ?_; intro v' w1 hown' hgrow _; obtain ⟨g', cap', rfl⟩ := ownsRow_succ hown'; obtain ⟨hv1, hv2, hr2, hk2, hs2, hb2⟩ := row_appended hv (by decide) hrow hsW hown' hgrow; have hc1 := hv1.cell; have hf1 := hv1.frozen))
    exact ⟨hk2.from _, fun j hj => hs2 j (HTT.out j hj).1 (Or.inl (by have := (HTT.out j hj).1; rcases hj with rfl | rfl | rfl | rfl <;> omega)) (HTT.out j hj).2, ⟨_, hv2, by rw [List.length_append]; unfold freshV; rw [List.map_append]; exact hr2⟩, hB.trans (hb2 _ (by omega) (Nat.le_refl _)), Nat.le_trans hsW hk2.size⟩
  case done =>
    rintro D ys W hD rfl ⟨⟨v, hv, hrow⟩, hB, hsW⟩ hK
    have hc := hv.cell
    go_wp2
    refine ⟨by simp, .inl ⟨_, _, rfl, run_takeDeferred hK, ?_⟩⟩
    exact ⟨_, results_tmp rfl _ _ _, _, rfl, Go.Joins.ownsRow_le (ownsRow_putObj hrow _ hK rfl) (by omega), hB.trans (belowK_b (w := w) (Nat.le_refl _) W D _ _ (by omega) hK rfl rfl)⟩
  case stop =>
    rintro D c pre W _ _ h _
    exact h.elim
end Go.Proofs.Ytfaikkhnlioajaa.Br9
