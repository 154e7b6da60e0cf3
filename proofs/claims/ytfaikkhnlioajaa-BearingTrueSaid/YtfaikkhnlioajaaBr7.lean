/- Those of whom something is known, one by one. -/
import Derived.Test.YtfaikkhnlioajaaProg
import Derived.Below
import Derived.Deep.Draws
import Derived.Deep.AppendLies
import Derived.Maps.AppendAt
import Derived.OwnWalk
import Derived.Laws.BytesArg
import Derived.Laws.MakeOwn
import Derived.Laws.OwnMore
import Derived.Deep.OwnRows
import Derived.Tactics
import Derived.Lib.ConvBytes
import Derived.Laws.Slices
import Derived.WalkKit
import Derived.KernelRfl
import Derived.RowKit3
import Derived.Deep.LoopGhost
import Derived.Deep.QuietTactic
import Derived.BigQuiet
import Derived.WideLaws
import Derived.Deep.DeepCutAuto
import Derived.Deep.CutBlock
import Derived.Deep.RegionHeld3
import Derived.Laws.Rows
import Derived.Lib.AppendStr
import Derived.ArgAppend
import Derived.Laws.IdiomCopy
import Derived.OrdersHeld
import Derived.Laws.BitsLemmas
import Derived.RowKit
import Derived.RegionTactic
import Derived.ChangeAlike
import Derived.Outline
import Derived.LoopTactic
import Derived.WalkSpells
import Derived.WalkLawsBesides
import Derived.Lib.Hide
import Derived.StillTailTactics
import Derived.Deep.RegionWith
import Derived.Deep.RegionLaw
import Derived.Deep.DeepFit
import Derived.Deep.DeepMust
import Derived.Test.YtfaikkhnlioajaaWWords
import Derived.Test.YtfaikkhnlioajaaWLast
import Derived.Test.YtfaikkhnlioajaaWTab
import Derived.Test.YtfaikkhnlioajaaWFour
import Derived.Test.YtfaikkhnlioajaaWQPut
import Derived.Test.YtfaikkhnlioajaaWApart
import Derived.Test.YtfaikkhnlioajaaWArr
import Derived.Test.YtfaikkhnlioajaaWZeros
import Derived.Test.YtfaikkhnlioajaaWFoot
import Derived.Test.YtfaikkhnlioajaaWKept
import Derived.Test.YtfaikkhnlioajaaWShare
import Derived.Test.YtfaikkhnlioajaaWN
import Derived.Test.YtfaikkhnlioajaaWFootNe
import Derived.Test.YtfaikkhnlioajaaWAt
import Derived.Test.YtfaikkhnlioajaaWEqStruct
import Derived.Test.YtfaikkhnlioajaaWRepsOne
import Derived.Test.YtfaikkhnlioajaaWInv
import Derived.Test.YtfaikkhnlioajaaWInvWords
import Derived.Test.YtfaikkhnlioajaaWGuard
import Derived.Test.YtfaikkhnlioajaaWNEv
import Derived.Test.YtfaikkhnlioajaaWMore
import Derived.RangeFuncNested
import Derived.RangeFuncBound
import Derived.RangeFuncCalls
import Derived.RangeFuncLeaves
import Derived.RangeFuncBox
import Derived.Shelf.Abstract
import Derived.Shelf.RegionOpen
import Derived.WalkKit
import Derived.OwnWalkIn
import Derived.TacticsInMore
import Derived.LoopNIn
import Derived.LoopIn
import Derived.Test.YtfaikkhnlioajaaBr6
namespace Go.Proofs.Ytfaikkhnlioajaa.Br7
open Go.RowKit Go.Proofs.YtfaikkhnlioajaaW.PrintWords Go.Proofs.YtfaikkhnlioajaaW.PrintLast Go.Proofs.YtfaikkhnlioajaaW.PrintMore 
attribute [local go_sem] max2_int min2_int max_two min_two max_three min_three max_four min_four
set_option linter.unusedVariables false
set_option linter.unusedSimpArgs false
open Go.Proofs.Ytfaikkhnlioajaa.QBase Go.Proofs.Ytfaikkhnlioajaa.Sch Go.Proofs.Ytfaikkhnlioajaa.Plc Go.Proofs.Ytfaikkhnlioajaa.Gd1 Go.Proofs.Ytfaikkhnlioajaa.Gd2 Go.Proofs.Ytfaikkhnlioajaa.Gd3 Go.Proofs.Ytfaikkhnlioajaa.Gd4 Go.Proofs.Ytfaikkhnlioajaa.BrP Go.Proofs.Ytfaikkhnlioajaa.Br1 Go.Proofs.Ytfaikkhnlioajaa.Br2 Go.Proofs.Ytfaikkhnlioajaa.Br3 Go.Proofs.Ytfaikkhnlioajaa.Br4 Go.Proofs.Ytfaikkhnlioajaa.Br5 Go.Proofs.Ytfaikkhnlioajaa.Br6 Go.Maps
attribute [local go_sem] cellS1 frozenS1 cellS2 frozenS2 cellS3 frozenS3 cellS4 frozenS4 cellS5 frozenS5 cellS6 frozenS6
open Go.Shelf
attribute [local go_sem] Oper.semAt_some

def KeepOn (T : Nat → Prop) (W W' : World) : Prop := ∀ j, T j → W'.heap[j]? = W.heap[j]?
theorem KeepOn.refl (T : Nat → Prop) (W : World) : KeepOn T W W := fun _ _ => rfl
theorem KeepOn.trans {T : Nat → Prop} {A B D : World} (h : KeepOn T A B) (k : KeepOn T B D) : KeepOn T A D := fun j hj => (k j hj).trans (h j hj)
theorem KeepOn.grown {T : Nat → Prop} {W W' : World} {row : Option Nat} (h : W.grownBy W' row) (hT : ∀ j, T j → j < W.heap.size ∧ some j ≠ row) : KeepOn T W W' := fun j hj => h.block j (hT j hj).1 (hT j hj).2
theorem KeepOn.below {T : Nat → Prop} {W W' : World} {n0 : Nat} (h : Below n0 W W') (hT : ∀ j, T j → j < n0) : KeepOn T W W' := fun j hj => h.block j (hT j hj)
theorem keepOn_b {T : Nat → Prop} {w : World} (hT : ∀ j, T j → j < w.heap.size) (W : World) (l : Nat) (o o' : Obj) (hl : w.heap.size ≤ l) (_ : W.heap[l]? = some o) (_ : o.isCells = false) (_ : o.isWalk = false) : KeepOn T W (W.putObj l o') :=
  fun j hj => World.putObj_heap_other (by have := hT j hj; omega)
theorem KeepOn.belowAlloc {T : Nat → Prop} {W W1 : World} (hb : Below W.heap.size W W1) (hT : ∀ j, T j → j < W.heap.size) (o : Obj) : KeepOn T W (W1.alloc o) := fun j hj => (Below.heap_alloc W1 o j (Nat.lt_of_lt_of_le (hT j hj) hb.size)).trans (hb.block j (hT j hj))
def T4 (g bm b0 b1 : Nat) : Nat → Prop := fun j => j = g ∨ j = bm ∨ j = b0 ∨ j = b1
theorem KMap.same {w w' : World} {bm n : Nat} {M : KM} (h : KMap w bm n M) (e : w'.heap[bm]? = w.heap[bm]?) : KMap w' bm n M := by
  obtain ⟨D, ⟨es, cl, h1, h2, h3, h4⟩, h5⟩ := h
  exact ⟨D, ⟨es, cl, e.trans h1, h2, h3, h4⟩, h5⟩
theorem IsT.same {z w w' : World} {g bm : Nat} {n f s dl ks ee wd rh sl cp i : Int} (h : IsT z w g bm n f s dl ks ee wd rh sl cp i) (e : w'.heap[g]? = w.heap[g]?) : IsT z w' g bm n f s dl ks ee wd rh sl cp i := ⟨e.trans h.1, h.2⟩
/-- Those of whom something is known, from the first on. -/
def upto (n i kp d : Int) (M : KM) (t : Int) (j : Nat) : List (Int × Int × Int) := (List.range j).filterMap fun v => let q := atF n i kp d M (v : Nat) t; if q.2.2 = 0 then some ((v : Nat), q.1, q.2.1) else none
theorem upto_zero (n i kp d : Int) (M : KM) (t : Int) : upto n i kp d M t 0 = [] := rfl
theorem upto_in (n i kp d : Int) (M : KM) (t : Int) (j : Nat) {x y : Int} (h : atF n i kp d M (j : Nat) t = (x, y, 0)) : upto n i kp d M t (j + 1) = upto n i kp d M t j ++ [(((j : Nat) : Int), x, y)] := by
  unfold upto
  rw [List.range_succ, List.filterMap_append]
  simp [h]
theorem upto_out (n i kp d : Int) (M : KM) (t : Int) (j : Nat) {x y e : Int} (h : atF n i kp d M (j : Nat) t = (x, y, e)) (he : e ≠ 0) : upto n i kp d M t (j + 1) = upto n i kp d M t j := by
  unfold upto
  rw [List.range_succ, List.filterMap_append]
  simp [h, he]
theorem upto_len (n i kp d : Int) (M : KM) (t : Int) (j : Nat) : (upto n i kp d M t j).length ≤ j := by
  unfold upto
  exact Nat.le_trans (List.length_filterMap_le _ _) (by simp)
abbrev encs3 (x : Int × Int × Int) : Array Value := #[.int .i64 x.1, .agg #[.int .i64 x.2.1, .int .i64 x.2.2]]
theorem all_ok (g : Nat) (t : Int) (w : World) : Calls Try.prog 58 #[.pointer (some ⟨g, 0, none⟩), .int .i64 t] w fun en w' => en = .returned (.func (.func 75) #[] #[.pointer (some ⟨w.heap.size, 0, none⟩), .pointer (some ⟨w.heap.size + 1, 0, none⟩)]) ∧ w' = (w.alloc (.cells #[.pointer (some ⟨g, 0, none⟩)] 55)).alloc (.cells #[.int .i64 t] 2) := by
  go_enter Try.func58, Try.ntmps58
  go_wp2
  go_ret
  exact ⟨rfl, rfl⟩
set_option maxRecDepth 100000 in
set_option maxHeartbeats 4000000 in
theorem all_stops (g bm : Nat) (n f s dl ks ee wd rh sl cp i : Int) (b0 b1 k : Nat) (M : KM) (t : Int) (nf : Nat) (hnf : 1 ≤ nf) (z w0 : World) (hI : IsT z w0 g bm n f s dl ks ee wd rh sl cp i) (hM : KMap w0 bm k M) (hb0 : w0.heap[b0]? = some (.cells #[.pointer (some ⟨g, 0, none⟩)] 55 (0, 0))) (hb1 : w0.heap[b1]? = some (.cells #[.int .i64 t] 2 (0, 0))) (hMo : KOk M) (hk : Ok n f s dl ks ee wd rh sl cp) :
    SeqStopsK Fence.wide nf Try.prog 75 #[.pointer (some ⟨b0, 0, none⟩), .pointer (some ⟨b1, 0, none⟩)] encs3 (KeepOn (T4 g bm b0 b1)) (fun xs => xs = upto n i (2 * (n * s)) (rh + sl) M t n.toNat) (fun _ => True) 9 w0 := fun l J Jx W hW hJ hJx hY h0 => by
  have hn : 0 ≤ n ∧ n ≤ 8 := by unfold Ok at hk; omega
  obtain ⟨n0, n8⟩ := hn
  have hT : ∀ j, (T4 g bm b0 b1) j → j < w0.heap.size := by
    rintro j (rfl | rfl | rfl | rfl)
    · exact blk_lt hI.1
    · exact KMap.lt hM
    · exact blk_lt hb0
    · exact blk_lt hb1
  have hK0 : KeepOn (T4 g bm b0 b1) w0 W := KeepOn.below hW hT
  have FACTS : Aside0 (∀ V, KeepOn (T4 g bm b0 b1) w0 V → IsT z V g bm n f s dl ks ee wd rh sl cp i ∧ KMap V bm k M ∧ V.heap[b0]? = some (.cells #[.pointer (some ⟨g, 0, none⟩)] 55 (0, 0)) ∧ V.heap[b1]? = some (.cells #[.int .i64 t] 2 (0, 0))) := ⟨fun V h => ⟨IsT.same hI (h g (Or.inl rfl)), KMap.same hM (h bm (Or.inr (Or.inl rfl))), (h b0 (Or.inr (Or.inr (Or.inl rfl)))).trans hb0, (h b1 (Or.inr (Or.inr (Or.inr rfl)))).trans hb1⟩⟩
  have HT := Aside0.mk (fun (V : World) (hV : KeepOn (T4 g bm b0 b1) w0 V) j (hj : (T4 g bm b0 b1) j) => (show j < V.heap.size from by
    have hh := hV j hj
    have hl := hT j hj
    rw [Array.getElem?_eq_getElem hl] at hh
    exact (Array.getElem?_eq_some_iff.1 hh).1))
  have HAT := Aside0.mk (fun (r x y e : Int) (V : World) (h1 : IsT z V g bm n f s dl ks ee wd rh sl cp i) (h2 : KMap V bm k M) (he : atF n i (2 * (n * s)) (rh + sl) M r t = (x, y, e)) => at_any g bm n f s dl ks ee wd rh sl cp i r t x y e z V h1 k M h2 hMo hk he)
  have F0 := FACTS.out W hK0
  have c55 : W.cell? ⟨b0, 0, none⟩ = some (.pointer (some ⟨g, 0, none⟩)) := (blk_cell F0.2.2.1 0).trans rfl
  have c0 : W.cell? ⟨g, 0, none⟩ = some (.int .i64 n) := (blk_cell F0.1.1 0).trans rfl
  have HK0 := Aside0.mk hK0
  have HJ := Aside0.mk hJ
  have HY := Aside0.mk hY
  have H0 := Aside0.mk h0
  clear hI hM hb0 hb1 hMo hk hW hT hK0 F0 hJ hY h0 hJx
  refine callsIn_of_wp Try.func75 rfl trivial ?_ rfl
  simp only [Try.ntmps75, List.size_toArray, List.length_cons, List.length_nil, Nat.reduceAdd, Nat.reduceSub, Array.replicate_succ, Array.replicate_zero, List.push_toArray, List.append_toArray, List.nil_append, List.cons_append]
  gi_wp2
  gi_loopw [12] (fun v wr => ∃ j : Nat, v = .int .i64 j ∧ j ≤ n.toNat ∧ Aside0 (KeepOn (T4 g bm b0 b1) w0 wr) ∧ Aside0 (J (upto n i (2 * (n * s)) (rh + sl) M t j) wr)) (fun v _ => n.toNat - (intOf v).toNat)
  case atStart => exact ⟨0, rfl, Nat.zero_le _, HK0, H0⟩
  case round =>
    obtain ⟨j, rfl, hj, K5, J5⟩ := hrel
    clear c55 c0 HK0 H0
    by_cases hlt : j < n.toNat
    · have hltb : decide ((j : Int) < n) = true := decide_eq_true (by omega)
      obtain ⟨f1, f2, f3, f4⟩ := FACTS.out _ K5.out
      have c55 : wr.cell? ⟨b0, 0, none⟩ = some (.pointer (some ⟨g, 0, none⟩)) := (blk_cell f3 0).trans rfl
      have c2 : wr.cell? ⟨b1, 0, none⟩ = some (.int .i64 t) := (blk_cell f4 0).trans rfl
      obtain ⟨x, y, e, he⟩ : ∃ x y e, atF n i (2 * (n * s)) (rh + sl) M (j : Nat) t = (x, y, e) := ⟨_, _, _, rfl⟩
      have HC := Aside0.mk (HAT.out _ x y e _ f1 f2 he)
      have HE := Aside0.mk he
      clear f1 f2 f3 f4 he
      by_cases he0 : e = 0
      · subst he0
        gi_wp2_with (refine ⟨trivial, ?_⟩; gi_at_call 26; go_loud (refine (callsIn_wide.2 HC.out).mono ?_; rintro en w1 ⟨rfl, hb⟩; have hj2 : J (upto n i (2 * (n * s)) (rh + sl) M t j) (w1.alloc (.cells #[.int .i64 x, .int .i64 y] 61)) := HJ.out _ _ _ none (HJ.out _ _ _ none J5.out (grown_of_below none hb) (by simp)) (World.grownBy_alloc _ _ none) (by simp); obtain ⟨fn, tm, as_, bd, hy, hR⟩ := HY.out _ (((j : Nat) : Int), x, y) _ hj2 (by have := upto_len n i (2 * (n * s)) (rh + sl) M t j; omega); dsimp only [encs3] at hy; have HB := Aside0.mk hb; clear hb hj2))
        refine hR.mono ?_
        rintro en W3 (⟨rfl, hj3, hk3⟩ | ⟨rfl, hx3⟩)
        · gi_wp2
          go_roundw
          case rel => exact ⟨j + 1, by go_num, by omega, ⟨(K5.out.trans (KeepOn.belowAlloc HB.out (HT.out _ K5.out) _)).trans hk3⟩, ⟨by rw [upto_in _ _ _ _ _ _ _ HE.out]; exact hj3⟩⟩
          case measure => simp [intOf]; omega
        · gi_wp2
          refine bodyPost_ret (results_none rfl _ _ _) rfl ?_
          exact ⟨⟨_, rfl⟩, .inr ⟨_, trivial, hx3⟩⟩
      · have heb : (e == 0) = false := beq_eq_false_iff_ne.2 he0
        gi_wp2_with (refine ⟨trivial, ?_⟩; gi_at_call 26; go_loud (refine (callsIn_wide.2 HC.out).mono ?_; rintro en w1 ⟨rfl, hb⟩; have HB := Aside0.mk hb; clear hb))
        refine ⟨fun _ h => (by cases h), ?_⟩
        gi_wp2
        go_roundw
        case rel => exact ⟨j + 1, by go_num, by omega, ⟨K5.out.trans (KeepOn.belowAlloc HB.out (HT.out _ K5.out) _)⟩, ⟨by rw [upto_out _ _ _ _ _ _ _ HE.out he0]; exact HJ.out _ _ _ none (HJ.out _ _ _ none J5.out (grown_of_below none HB.out) (by simp)) (World.grownBy_alloc _ _ none) (by simp)⟩⟩
        case measure => simp [intOf]; omega
    · have hltb : decide ((j : Int) < n) = false := decide_eq_false (by omega)
      gi_wp2
      go_end0
      exact ⟨⟨_, rfl⟩, .inl ⟨_, by rw [show n.toNat = j by omega], J5.out⟩⟩
end Go.Proofs.Ytfaikkhnlioajaa.Br7
