/- Lists of byte slices. -/
import Derived.Test.YtoeaoanaefipaaaProg
import Derived.Below
import Derived.Deep.Draws
import Derived.Deep.AppendLies
import Derived.Maps.AppendAt
import Derived.OwnWalk
import Derived.Laws.BytesArg
import Derived.Laws.MakeOwn
import Derived.Laws.OwnMore
import Derived.Deep.OwnRows
import Derived.Tactics
import Derived.Lib.ConvBytes
import Derived.Laws.Slices
import Derived.WalkKit
import Derived.KernelRfl
import Derived.RowKit3
import Derived.Deep.LoopGhost
import Derived.Deep.QuietTactic
import Derived.BigQuiet
import Derived.WideLaws
import Derived.Deep.DeepCutAuto
import Derived.Deep.CutBlock
import Derived.Deep.RegionHeld3
import Derived.Laws.Rows
import Derived.Lib.AppendStr
import Derived.ArgAppend
import Derived.Laws.IdiomCopy
import Derived.OrdersHeld
import Derived.Laws.BitsLemmas
import Derived.RowKit
import Derived.RegionTactic
import Derived.ChangeAlike
import Derived.Outline
import Derived.LoopTactic
import Derived.WalkSpells
import Derived.WalkLawsBesides
import Derived.Lib.Hide
import Derived.StillTailTactics
import Derived.Deep.RegionWith
import Derived.Deep.RegionLaw
import Derived.Deep.DeepFit
import Derived.Deep.DeepMust
import Derived.Test.YtoeaoanaefipaaaWWords
import Derived.Test.YtoeaoanaefipaaaWLast
import Derived.Test.YtoeaoanaefipaaaWTab
import Derived.Test.YtoeaoanaefipaaaWFour
import Derived.Test.YtoeaoanaefipaaaWQPut
import Derived.Test.YtoeaoanaefipaaaWApart
import Derived.Test.YtoeaoanaefipaaaWArr
import Derived.Test.YtoeaoanaefipaaaWZeros
import Derived.Test.YtoeaoanaefipaaaWFoot
import Derived.Test.YtoeaoanaefipaaaWKept
import Derived.Test.YtoeaoanaefipaaaWShare
import Derived.Test.YtoeaoanaefipaaaWN
import Derived.Test.YtoeaoanaefipaaaWFootNe
import Derived.Test.YtoeaoanaefipaaaWAt
import Derived.Test.YtoeaoanaefipaaaWEqStruct
import Derived.Test.YtoeaoanaefipaaaWRepsOne
import Derived.Test.YtoeaoanaefipaaaWInv
import Derived.Test.YtoeaoanaefipaaaWInvWords
import Derived.Test.YtoeaoanaefipaaaWGuard
import Derived.Test.YtoeaoanaefipaaaWNEv
import Derived.Test.YtoeaoanaefipaaaWMore
import Derived.Test.YtoeaoanaefipaaaBfc
namespace Go.Proofs.Ytoeaoanaefipaaa.Bfd
open Go.RowKit Go.Proofs.YtoeaoanaefipaaaW.PrintWords Go.Proofs.YtoeaoanaefipaaaW.PrintLast Go.Proofs.YtoeaoanaefipaaaW.PrintMore 
attribute [local go_sem] max2_int min2_int max_two min_two max_three min_three max_four min_four
set_option linter.unusedVariables false
set_option linter.unusedSimpArgs false
open Go.Maps Go.ChangeMaps Go.Proofs.Ytoeaoanaefipaaa.Bf1 Go.Proofs.Ytoeaoanaefipaaa.Bf2 Go.Proofs.Ytoeaoanaefipaaa.Bf3 Go.Proofs.Ytoeaoanaefipaaa.BfP Go.Proofs.Ytoeaoanaefipaaa.Bf4 Go.Proofs.Ytoeaoanaefipaaa.Bf5 Go.Proofs.Ytoeaoanaefipaaa.Bf6 Go.Proofs.Ytoeaoanaefipaaa.Bf7 Go.Proofs.Ytoeaoanaefipaaa.Bf8 Go.Proofs.Ytoeaoanaefipaaa.Bf9 Go.Proofs.Ytoeaoanaefipaaa.BfN Go.Proofs.Ytoeaoanaefipaaa.Bfa Go.Proofs.Ytoeaoanaefipaaa.BfQ Go.Proofs.Ytoeaoanaefipaaa.Bfb Go.Proofs.Ytoeaoanaefipaaa.Bfc
attribute [local go_sem] cellS1 frozenS1 cellS2 frozenS2 cellS3 frozenS3 cellS4 frozenS4 cellS5 frozenS5 cellS6 frozenS6

theorem C_below {w W : World} {A : Option Addr} {b : List Int} (h : Kd.C (Kd.int .u8) w A b.length b) (hb : Below w.heap.size w W) : Kd.C (Kd.int .u8) W A b.length b := by
  have hr : ReadsInt w .u8 A b.length b := Kd.reads_of_C (enc := Value.int .u8) (d := (0 : Int)) (h1 := fun _ => rfl) h
  refine Kd.C_of_reads (d := (0 : Int)) (h1 := fun _ => rfl) ⟨hr.1, hr.2.1, fun hp => ?_⟩
  obtain ⟨ad, e, hc⟩ := hr.2.2 hp
  exact ⟨ad, e, fun j hj => (hb.cell (World.block_lt_of_cell? w _ (hc j hj))).trans (hc j hj)⟩
theorem C_cells {w : World} {A : Option Addr} {b : List Int} (h : Kd.C (Kd.int .u8) w A b.length b) (hp : 0 < b.length) : ∃ ad, A = some ad ∧ ∀ j v, (b.map (Value.int .u8))[j]? = some v → w.cell? (ad.add j) = some v := by
  have hr : ReadsInt w .u8 A b.length b := Kd.reads_of_C (enc := Value.int .u8) (d := (0 : Int)) (h1 := fun _ => rfl) h
  obtain ⟨ad, e, hc⟩ := hr.2.2 hp
  refine ⟨ad, e, fun j v hj => ?_⟩
  rw [List.getElem?_map] at hj
  cases hb : b[j]? with
  | none => rw [hb] at hj; cases hj
  | some x =>
    rw [hb] at hj
    cases hj
    have hlt := (List.getElem?_eq_some_iff.1 hb).1
    rw [hc j hlt, List.getD_eq_getElem?_getD, hb]; rfl
/-- Slices of bytes that lie side by side. -/
def StrsAt (w : World) (A : Option Addr) (X : List (List Int)) : Prop := ∀ i, i < X.length → ∃ ad S c, A = some ad ∧ w.cell? (ad.add i) = some (.slice S (X.getD i []).length c) ∧ Kd.C (Kd.int .u8) w S (X.getD i []).length (X.getD i [])
theorem StrsAt.below {w W : World} {A : Option Addr} {X : List (List Int)} (h : StrsAt w A X) (hb : Below w.heap.size w W) : StrsAt W A X := fun i hi => by
  obtain ⟨ad, S, c, e, h1, h2⟩ := h i hi
  exact ⟨ad, S, c, e, cell_bel hb h1, C_below h2 hb⟩
set_option maxRecDepth 100000 in
set_option maxHeartbeats 1000000 in
theorem same_yes (A B : Option Addr) (c d n : Nat) (X : List (List Int)) (w : World) (hX : X.length = n) (h1 : StrsAt w A X) (h2 : StrsAt w B X) (hn : n ≤ 9223372036854775807) : Calls Try.prog 12 #[.slice A n c, .slice B n d] w fun en w' => en = .returned (.bool true) ∧ Below w.heap.size w w' := by
  have H1 := Aside0.mk h1
  have H2 := Aside0.mk h2
  have HX := Aside0.mk hX
  clear h1 h2 hX
  go_enter Try.func12, Try.ntmps12
  go_wp2
  go_loopw [5] (fun vi wr => ∃ i : Nat, vi = .int .i64 i ∧ i ≤ n ∧ Aside0 (Below w.heap.size w wr)) (fun vi _ => n - (intOf vi).toNat)
  case atStart => exact ⟨0, rfl, Nat.zero_le _, ⟨Below.refl _ _⟩⟩
  case round =>
    obtain ⟨i, rfl, hi, P1⟩ := hrel
    by_cases hil : i < n
    · have hib : decide ((i : Int) < (n : Int)) = true := decide_eq_true (by omega)
      obtain ⟨a1, S1, c1, e1, x1, y1⟩ := (H1.out.below P1.out) i (by rw [HX.out]; exact hil)
      obtain ⟨a2, S2, c2, e2, x2, y2⟩ := (H2.out.below P1.out) i (by rw [HX.out]; exact hil)
      subst e1
      subst e2
      obtain ⟨x, hx⟩ : ∃ x, X.getD i [] = x := ⟨_, rfl⟩
      rw [hx] at x1 y1 x2 y2
      have v1 : ∀ m, (convert 27 9 (.slice S1 x.length c1)).run Try.prog (wr.drewN m) = .ok (.string (strOfNums x)) (wr.drewN m) := fun m => Kd.C_string Try.underlying27 Try.underlying5 Try.underlying9 (C_below y1 (pw_below_drewN (Below.refl _ _) m))
      have v2 : ∀ m, (convert 27 9 (.slice S2 x.length c2)).run Try.prog (wr.drewN m) = .ok (.string (strOfNums x)) (wr.drewN m) := fun m => Kd.C_string Try.underlying27 Try.underlying5 Try.underlying9 (C_below y2 (pw_below_drewN (Below.refl _ _) m))
      have hz0 : (0 : Int) ≤ (i : Int) := by omega
      have hz1 : (i : Int) < (n : Int) := by omega
      clear hx y1 y2
      go_upto_region 6 with (fail)
      go_quiet (fail)
      go_wp2
      go_roundw
      case rel => exact ⟨i + 1, by go_num, by omega, ⟨pw_below_drewN P1.out _⟩⟩
      case measure => simp [intOf]; omega
    · have hib : decide ((i : Int) < (n : Int)) = false := decide_eq_false (by omega)
      go_wp2
      go_ret
      exact ⟨rfl, P1.out⟩
theorem own_keep {z a b : World} {n0 size n : Nat} {e : TypeId} {v : Value} {xs : List Value} (h : a.ownsRow n0 e size v n xs) (he : e ≠ 39 ∧ e ≠ 53) (hk : Keep z a b) : b.ownsRow n0 e size v n xs := by
  refine ⟨h.1, ?_⟩
  rcases h.2 with hn | ⟨g, cap, cur, rfl, hb, hgg, rest⟩
  · exact .inl hn
  · refine .inr ⟨g, cap, cur, rfl, hb, (hk.block g (blk_lt hgg) (Or.inr ⟨_, hgg, fun hq => ?_⟩)).trans hgg, rest⟩
    rcases hq with hq | ⟨cs', t, fr', e', ht⟩
    · exact hq _ _ _ rfl
    · cases e'
      rcases ht with e' | e'
      · exact he.1 e'
      · exact he.2 e'
/-- A list of byte slices that the call keeps; the bytes are those of its arguments. -/
def Want (w w' : World) (v : Value) (X : List (List Int)) : Prop := ∃ vs : List Value, w'.ownsRow w.heap.size 27 1 v X.length vs ∧ ∀ i, i < X.length → ∃ S c, vs[i]? = some (.slice S (X.getD i []).length c) ∧ Kd.C (Kd.int .u8) w S (X.getD i []).length (X.getD i [])
theorem Want.keep {w a b : World} {v : Value} {X : List (List Int)} (h : Want w a v X) (hk : Keep w a b) : Want w b v X := by
  obtain ⟨vs, h1, h2⟩ := h
  exact ⟨vs, own_keep h1 (by decide) hk, h2⟩
theorem Want.kept {w a b : World} {v : Value} {X : List (List Int)} {row : Option Nat} (h : Want w a v X) (hg : a.grownBy b row) (hr : ∀ r, row = some r → ∀ cs fr, a.heap[r]? ≠ some (.cells cs 27 fr)) : Want w b v X := by
  obtain ⟨vs, h1, h2⟩ := h
  refine ⟨vs, h1.kept hg ?_, h2⟩
  cases hv : v.ownBlock with
  | none => exact Or.inl rfl
  | some g =>
    refine Or.inr (fun e => ?_)
    obtain ⟨_, cs, hcs⟩ := own_ge h1 hv
    exact hr g e.symm cs _ hcs
theorem Want.strs {w a : World} {A : Option Addr} {c n : Nat} {X : List (List Int)} (h : Want w a (.slice A n c) X) (hn : X.length = n) (hb : Below w.heap.size w a) : StrsAt a A X := fun i hi => by
  obtain ⟨vs, h1, h2⟩ := h
  obtain ⟨S, c2, h3, h4⟩ := h2 i hi
  rcases h1.2 with ⟨e, h0⟩ | ⟨g, cap, cur, e, hb2, hg, hnc, _, hs, ht⟩
  · omega
  · cases e
    refine ⟨_, S, c2, rfl, ?_, C_below h4 hb⟩
    rw [← ht, List.getElem?_take_of_lt (by omega)] at h3
    rw [show ((⟨g, 0, none⟩ : Addr).add i) = ⟨g, i, none⟩ by simp [Addr.add] <;> omega, blk_cell hg]
    simpa using h3
theorem gone_strs {w : World} {n0 c n : Nat} {A : Option Addr} {G : List It} (h : Gone w n0 (.slice A n c) G) (hG : ∀ x ∈ G, ItOk x) : StrsAt w A (G.map (fun x => x.2.2)) := fun i hi => by
  rw [List.length_map] at hi
  obtain ⟨gb, u, e, h1, h2⟩ := gone_at h i hi
  subst e
  have hx := hG (G.getD i dflt) (by rw [List.getD_eq_getElem?_getD, List.getElem?_eq_getElem hi]; exact List.getElem_mem hi)
  obtain ⟨A2, c2, e2, h3⟩ := h2.C (by have := hx.2.2.2.2.1; unfold maxLen; omega)
  have hm : (G.map (fun x => x.2.2)).getD i [] = (G.getD i dflt).2.2 := by
    rw [List.getD_eq_getElem?_getD, List.getElem?_map, List.getElem?_eq_getElem hi, List.getD_eq_getElem?_getD, List.getElem?_eq_getElem hi]; rfl
  rw [hm]
  refine ⟨_, A2, c2, rfl, ?_, h3⟩
  rw [show ((⟨gb, 0, none⟩ : Addr).add i) = ⟨gb, i, none⟩ by simp [Addr.add] <;> omega, h1, e2]
theorem StrsAt.take {w : World} {A : Option Addr} {X : List (List Int)} (h : StrsAt w A X) (m : Nat) : StrsAt w A (X.take m) := fun i hi => by
  rw [List.length_take] at hi
  have hm : (X.take m).getD i [] = X.getD i [] := by
    rw [List.getD_eq_getElem?_getD, List.getElem?_take_of_lt (by omega), List.getD_eq_getElem?_getD]
  rw [hm]
  exact h i (by omega)
theorem Want.nil (w : World) : Want w w (.slice none 0 0) [] := ⟨[], World.ownsRow_nil _ _ _ _, fun i hi => absurd hi (Nat.not_lt_zero _)⟩
theorem Want.snoc {w b : World} {v' : Value} {X : List (List Int)} {vs : List Value} {S : Option Addr} {c : Nat} {x : List Int} (h1 : vs.length = X.length) (h2 : ∀ i, i < X.length → ∃ S c, vs[i]? = some (.slice S (X.getD i []).length c) ∧ Kd.C (Kd.int .u8) w S (X.getD i []).length (X.getD i [])) (hC : Kd.C (Kd.int .u8) w S x.length x) (ho : b.ownsRow w.heap.size 27 1 v' (X.length + 1) (vs ++ [.slice S x.length c])) : Want w b v' (X ++ [x]) := by
  refine ⟨_, by rw [List.length_append]; exact ho, fun i hi => ?_⟩
  rw [List.length_append] at hi
  replace hi : i < X.length + 1 := hi
  by_cases hix : i < X.length
  · obtain ⟨S', c', h3, h4⟩ := h2 i hix
    have hm : (X ++ [x]).getD i [] = X.getD i [] := by rw [List.getD_eq_getElem?_getD, List.getElem?_append_left hix, List.getD_eq_getElem?_getD]
    rw [hm]
    exact ⟨S', c', by rw [List.getElem?_append_left (by omega)]; exact h3, h4⟩
  · obtain rfl : i = X.length := by omega
    have hm : (X ++ [x]).getD X.length [] = x := by rw [List.getD_eq_getElem?_getD, List.getElem?_append_right (Nat.le_refl _), Nat.sub_self]; rfl
    rw [hm]
    exact ⟨S, c, by rw [List.getElem?_append_right (by omega), h1, Nat.sub_self]; rfl, hC⟩
theorem own_C {z a b : World} {n0 c : Nat} {A : Option Addr} {x : List Int} (h : a.ownsRow n0 5 1 (.slice A x.length c) x.length (x.map (Value.int .u8))) (hk : Keep z a b) (hl : x.length ≤ maxLen) : Kd.C (Kd.int .u8) b A x.length x := by
  have h' := own_keep h (by decide) hk
  refine Kd.C_of_reads (d := (0 : Int)) (h1 := fun _ => rfl) ⟨rfl, hl, fun hp => ?_⟩
  rcases h'.2 with ⟨e, h0⟩ | ⟨g, cap, cur, e, hb2, hg, hnc, _, hs, ht⟩
  · omega
  · cases e
    refine ⟨_, rfl, fun j hj => ?_⟩
    rw [show ((⟨g, 0, none⟩ : Addr).add j) = ⟨g, j, none⟩ by simp [Addr.add] <;> omega, blk_cell hg]
    have h3 : (x.map (Value.int .u8))[j]? = some (.int .u8 (x.getD j 0)) := by
      rw [List.getElem?_map, List.getElem?_eq_getElem hj, List.getD_eq_getElem?_getD, List.getElem?_eq_getElem hj]; rfl
    rw [← ht, List.getElem?_take_of_lt (by omega)] at h3
    simpa using h3
theorem info5 : (Try.prog.info? 5).map (fun i => (i.zero, i.size, i.bytes)) = some (some (.int .u8 0), 1, 1) := by kernel_rfl
theorem own_fresh (w : World) (n0 : Nat) (x : List Int) (h : n0 ≤ w.heap.size) (hl : x.length ≤ maxLen) : (w.alloc (.cells (x.map (Value.int .u8)).toArray 5)).ownsRow n0 5 1 (.slice (some ⟨w.heap.size, 0, none⟩) x.length x.length) x.length (x.map (Value.int .u8)) :=
  ⟨by simp, .inr ⟨w.heap.size, x.length, _, rfl, h, blk_new _ _, Nat.le_refl _, hl, by simp, by simp [List.take_of_length_le]⟩⟩
end Go.Proofs.Ytoeaoanaefipaaa.Bfd
