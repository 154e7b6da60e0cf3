/- Texts of this seat, one behind the other: Br7 Br8 Br9 BrA BrD. -/
import Derived.Test.YtfaikkhnlioajaaProg
import Derived.Below
import Derived.Deep.Draws
import Derived.Deep.AppendLies
import Derived.Maps.AppendAt
import Derived.OwnWalk
import Derived.Laws.BytesArg
import Derived.Laws.MakeOwn
import Derived.Laws.OwnMore
import Derived.Deep.OwnRows
import Derived.Tactics
import Derived.Lib.ConvBytes
import Derived.Laws.Slices
import Derived.WalkKit
import Derived.KernelRfl
import Derived.RowKit3
import Derived.Deep.LoopGhost
import Derived.Deep.QuietTactic
import Derived.BigQuiet
import Derived.WideLaws
import Derived.Deep.DeepCutAuto
import Derived.Deep.CutBlock
import Derived.Deep.RegionHeld3
import Derived.Laws.Rows
import Derived.Lib.AppendStr
import Derived.ArgAppend
import Derived.Laws.IdiomCopy
import Derived.OrdersHeld
import Derived.Laws.BitsLemmas
import Derived.RowKit
import Derived.RegionTactic
import Derived.ChangeAlike
import Derived.Outline
import Derived.LoopTactic
import Derived.WalkSpells
import Derived.WalkLawsBesides
import Derived.Lib.Hide
import Derived.StillTailTactics
import Derived.Deep.RegionWith
import Derived.Deep.RegionLaw
import Derived.Deep.DeepFit
import Derived.Deep.DeepMust
import Derived.Test.YtfaikkhnlioajaaWWords
import Derived.Test.YtfaikkhnlioajaaWLast
import Derived.Test.YtfaikkhnlioajaaWTab
import Derived.Test.YtfaikkhnlioajaaWFour
import Derived.Test.YtfaikkhnlioajaaWQPut
import Derived.Test.YtfaikkhnlioajaaWApart
import Derived.Test.YtfaikkhnlioajaaWArr
import Derived.Test.YtfaikkhnlioajaaWZeros
import Derived.Test.YtfaikkhnlioajaaWFoot
import Derived.Test.YtfaikkhnlioajaaWKept
import Derived.Test.YtfaikkhnlioajaaWShare
import Derived.Test.YtfaikkhnlioajaaWN
import Derived.Test.YtfaikkhnlioajaaWFootNe
import Derived.Test.YtfaikkhnlioajaaWAt
import Derived.Test.YtfaikkhnlioajaaWEqStruct
import Derived.Test.YtfaikkhnlioajaaWRepsOne
import Derived.Test.YtfaikkhnlioajaaWInv
import Derived.Test.YtfaikkhnlioajaaWInvWords
import Derived.Test.YtfaikkhnlioajaaWGuard
import Derived.Test.YtfaikkhnlioajaaWNEv
import Derived.Test.YtfaikkhnlioajaaWMore
import Derived.RangeFuncNested
import Derived.RangeFuncBound
import Derived.RangeFuncCalls
import Derived.RangeFuncLeaves
import Derived.RangeFuncBox
import Derived.Shelf.Abstract
import Derived.Shelf.RegionOpen
import Derived.OwnWalkIn
import Derived.TacticsInMore
import Derived.LoopNIn
import Derived.LoopIn
import Derived.Test.YtfaikkhnlioajaaBr6
import Derived.Test.YtfaikkhnlioajaaZI
import Derived.Test.YtfaikkhnlioajaaZS
section
namespace Go.Proofs.Ytfaikkhnlioajaa.Br7
open Go.RowKit Go.Proofs.YtfaikkhnlioajaaW.PrintWords Go.Proofs.YtfaikkhnlioajaaW.PrintLast Go.Proofs.YtfaikkhnlioajaaW.PrintMore 
attribute [local go_sem] max2_int min2_int max_two min_two max_three min_three max_four min_four
set_option linter.unusedVariables false
set_option linter.unusedSimpArgs false
open Go.Proofs.Ytfaikkhnlioajaa.QBase Go.Proofs.Ytfaikkhnlioajaa.Sch Go.Proofs.Ytfaikkhnlioajaa.Plc Go.Proofs.Ytfaikkhnlioajaa.Gd1 Go.Proofs.Ytfaikkhnlioajaa.Gd2 Go.Proofs.Ytfaikkhnlioajaa.Gd3 Go.Proofs.Ytfaikkhnlioajaa.Gd4 Go.Proofs.Ytfaikkhnlioajaa.BrP Go.Proofs.Ytfaikkhnlioajaa.Br1 Go.Proofs.Ytfaikkhnlioajaa.Br2 Go.Proofs.Ytfaikkhnlioajaa.Br3 Go.Proofs.Ytfaikkhnlioajaa.Br4 Go.Proofs.Ytfaikkhnlioajaa.Br5 Go.Proofs.Ytfaikkhnlioajaa.Br6 Go.Maps
attribute [local go_sem] cellS1 frozenS1 cellS2 frozenS2 cellS3 frozenS3 cellS4 frozenS4 cellS5 frozenS5 cellS6 frozenS6
open Go.Shelf
attribute [local go_sem] Oper.semAt_some

def KeepOn (T : Nat → Prop) (W W' : World) : Prop := ∀ j, T j → W'.heap[j]? = W.heap[j]?
theorem KeepOn.refl (T : Nat → Prop) (W : World) : KeepOn T W W := fun _ _ => rfl
theorem KeepOn.trans {T : Nat → Prop} {A B D : World} (h : KeepOn T A B) (k : KeepOn T B D) : KeepOn T A D := fun j hj => (k j hj).trans (h j hj)
theorem KeepOn.grown {T : Nat → Prop} {W W' : World} {row : Option Nat} (h : W.grownBy W' row) (hT : ∀ j, T j → j < W.heap.size ∧ some j ≠ row) : KeepOn T W W' := fun j hj => h.block j (hT j hj).1 (hT j hj).2
theorem KeepOn.below {T : Nat → Prop} {W W' : World} {n0 : Nat} (h : Below n0 W W') (hT : ∀ j, T j → j < n0) : KeepOn T W W' := fun j hj => h.block j (hT j hj)
theorem keepOn_b {T : Nat → Prop} {w : World} (hT : ∀ j, T j → j < w.heap.size) (W : World) (l : Nat) (o o' : Obj) (hl : w.heap.size ≤ l) (_ : W.heap[l]? = some o) (_ : o.isCells = false) (_ : o.isWalk = false) : KeepOn T W (W.putObj l o') :=
  fun j hj => World.putObj_heap_other (by have := hT j hj; omega)
theorem KeepOn.belowAlloc {T : Nat → Prop} {W W1 : World} (hb : Below W.heap.size W W1) (hT : ∀ j, T j → j < W.heap.size) (o : Obj) : KeepOn T W (W1.alloc o) := fun j hj => (Below.heap_alloc W1 o j (Nat.lt_of_lt_of_le (hT j hj) hb.size)).trans (hb.block j (hT j hj))
def T4 (g bm b0 b1 : Nat) : Nat → Prop := fun j => j = g ∨ j = bm ∨ j = b0 ∨ j = b1
theorem KMap.same {w w' : World} {bm n : Nat} {M : KM} (h : KMap w bm n M) (e : w'.heap[bm]? = w.heap[bm]?) : KMap w' bm n M := by
  obtain ⟨D, ⟨es, cl, h1, h2, h3, h4⟩, h5⟩ := h
  exact ⟨D, ⟨es, cl, e.trans h1, h2, h3, h4⟩, h5⟩
theorem IsT.same {z w w' : World} {g bm : Nat} {n f s dl ks ee wd rh sl cp i : Int} (h : IsT z w g bm n f s dl ks ee wd rh sl cp i) (e : w'.heap[g]? = w.heap[g]?) : IsT z w' g bm n f s dl ks ee wd rh sl cp i := ⟨e.trans h.1, h.2⟩
/-- Those of whom something is known, from the first on. -/
def upto (n i kp d : Int) (M : KM) (t : Int) (j : Nat) : List (Int × Int × Int) := (List.range j).filterMap fun v => let q := atF n i kp d M (v : Nat) t; if q.2.2 = 0 then some ((v : Nat), q.1, q.2.1) else none
theorem upto_zero (n i kp d : Int) (M : KM) (t : Int) : upto n i kp d M t 0 = [] := rfl
theorem upto_in (n i kp d : Int) (M : KM) (t : Int) (j : Nat) {x y : Int} (h : atF n i kp d M (j : Nat) t = (x, y, 0)) : upto n i kp d M t (j + 1) = upto n i kp d M t j ++ [(((j : Nat) : Int), x, y)] := by
  unfold upto
  rw [List.range_succ, List.filterMap_append]
  simp [h]
theorem upto_out (n i kp d : Int) (M : KM) (t : Int) (j : Nat) {x y e : Int} (h : atF n i kp d M (j : Nat) t = (x, y, e)) (he : e ≠ 0) : upto n i kp d M t (j + 1) = upto n i kp d M t j := by
  unfold upto
  rw [List.range_succ, List.filterMap_append]
  simp [h, he]
theorem upto_len (n i kp d : Int) (M : KM) (t : Int) (j : Nat) : (upto n i kp d M t j).length ≤ j := by
  unfold upto
  exact Nat.le_trans (List.length_filterMap_le _ _) (by simp)
abbrev encs3 (x : Int × Int × Int) : Array Value := #[.int .i64 x.1, .agg #[.int .i64 x.2.1, .int .i64 x.2.2]]
theorem all_ok (g : Nat) (t : Int) (w : World) : Calls Try.prog 58 #[.pointer (some ⟨g, 0, none⟩), .int .i64 t] w fun en w' => en = .returned (.func (.func 75) #[] #[.pointer (some ⟨w.heap.size, 0, none⟩), .pointer (some ⟨w.heap.size + 1, 0, none⟩)]) ∧ w' = (w.alloc (.cells #[.pointer (some ⟨g, 0, none⟩)] 55)).alloc (.cells #[.int .i64 t] 2) := by
  go_enter Try.func58, Try.ntmps58
  go_wp2
  go_ret
  exact ⟨rfl, rfl⟩
set_option maxRecDepth 100000 in
set_option maxHeartbeats 4000000 in
theorem all_stops (g bm : Nat) (n f s dl ks ee wd rh sl cp i : Int) (b0 b1 k : Nat) (M : KM) (t : Int) (nf : Nat) (hnf : 1 ≤ nf) (z w0 : World) (hI : IsT z w0 g bm n f s dl ks ee wd rh sl cp i) (hM : KMap w0 bm k M) (hb0 : w0.heap[b0]? = some (.cells #[.pointer (some ⟨g, 0, none⟩)] 55 (0, 0))) (hb1 : w0.heap[b1]? = some (.cells #[.int .i64 t] 2 (0, 0))) (hMo : KOk M) (hk : Ok n f s dl ks ee wd rh sl cp) :
    SeqStopsK Fence.wide nf Try.prog 75 #[.pointer (some ⟨b0, 0, none⟩), .pointer (some ⟨b1, 0, none⟩)] encs3 (KeepOn (T4 g bm b0 b1)) (fun xs => xs = upto n i (2 * (n * s)) (rh + sl) M t n.toNat) (fun _ => True) 9 w0 := fun l J Jx W hW hJ hJx hY h0 => by
  have hn : 0 ≤ n ∧ n ≤ 8 := by unfold Ok at hk; omega
  obtain ⟨n0, n8⟩ := hn
  have hT : ∀ j, (T4 g bm b0 b1) j → j < w0.heap.size := by
    rintro j (rfl | rfl | rfl | rfl)
    · exact blk_lt hI.1
    · exact KMap.lt hM
    · exact blk_lt hb0
    · exact blk_lt hb1
  have hK0 : KeepOn (T4 g bm b0 b1) w0 W := KeepOn.below hW hT
  have FACTS : Aside0 (∀ V, KeepOn (T4 g bm b0 b1) w0 V → IsT z V g bm n f s dl ks ee wd rh sl cp i ∧ KMap V bm k M ∧ V.heap[b0]? = some (.cells #[.pointer (some ⟨g, 0, none⟩)] 55 (0, 0)) ∧ V.heap[b1]? = some (.cells #[.int .i64 t] 2 (0, 0))) := ⟨fun V h => ⟨IsT.same hI (h g (Or.inl rfl)), KMap.same hM (h bm (Or.inr (Or.inl rfl))), (h b0 (Or.inr (Or.inr (Or.inl rfl)))).trans hb0, (h b1 (Or.inr (Or.inr (Or.inr rfl)))).trans hb1⟩⟩
  have HT := Aside0.mk (fun (V : World) (hV : KeepOn (T4 g bm b0 b1) w0 V) j (hj : (T4 g bm b0 b1) j) => (show j < V.heap.size from by
    have hh := hV j hj
    have hl := hT j hj
    rw [Array.getElem?_eq_getElem hl] at hh
    exact (Array.getElem?_eq_some_iff.1 hh).1))
  have HAT := Aside0.mk (fun (r x y e : Int) (V : World) (h1 : IsT z V g bm n f s dl ks ee wd rh sl cp i) (h2 : KMap V bm k M) (he : atF n i (2 * (n * s)) (rh + sl) M r t = (x, y, e)) => at_any g bm n f s dl ks ee wd rh sl cp i r t x y e z V h1 k M h2 hMo hk he)
  have F0 := FACTS.out W hK0
  have c55 : W.cell? ⟨b0, 0, none⟩ = some (.pointer (some ⟨g, 0, none⟩)) := (blk_cell F0.2.2.1 0).trans rfl
  have c0 : W.cell? ⟨g, 0, none⟩ = some (.int .i64 n) := (blk_cell F0.1.1 0).trans rfl
  have HK0 := Aside0.mk hK0
  have HJ := Aside0.mk hJ
  have HY := Aside0.mk hY
  have H0 := Aside0.mk h0
  clear hI hM hb0 hb1 hMo hk hW hT hK0 F0 hJ hY h0 hJx
  refine callsIn_of_wp Try.func75 rfl trivial ?_ rfl
  simp only [Try.ntmps75, List.size_toArray, List.length_cons, List.length_nil, Nat.reduceAdd, Nat.reduceSub, Array.replicate_succ, Array.replicate_zero, List.push_toArray, List.append_toArray, List.nil_append, List.cons_append]
  gi_wp2
  gi_loopw [12] (fun v wr => ∃ j : Nat, v = .int .i64 j ∧ j ≤ n.toNat ∧ Aside0 (KeepOn (T4 g bm b0 b1) w0 wr) ∧ Aside0 (J (upto n i (2 * (n * s)) (rh + sl) M t j) wr)) (fun v _ => n.toNat - (intOf v).toNat)
  case atStart => exact ⟨0, rfl, Nat.zero_le _, HK0, H0⟩
  case round =>
    obtain ⟨j, rfl, hj, K5, J5⟩ := hrel
    clear c55 c0 HK0 H0
    by_cases hlt : j < n.toNat
    · have hltb : decide ((j : Int) < n) = true := decide_eq_true (by omega)
      obtain ⟨f1, f2, f3, f4⟩ := FACTS.out _ K5.out
      have c55 : wr.cell? ⟨b0, 0, none⟩ = some (.pointer (some ⟨g, 0, none⟩)) := (blk_cell f3 0).trans rfl
      have c2 : wr.cell? ⟨b1, 0, none⟩ = some (.int .i64 t) := (blk_cell f4 0).trans rfl
      obtain ⟨x, y, e, he⟩ : ∃ x y e, atF n i (2 * (n * s)) (rh + sl) M (j : Nat) t = (x, y, e) := ⟨_, _, _, rfl⟩
      have HC := Aside0.mk (HAT.out _ x y e _ f1 f2 he)
      have HE := Aside0.mk he
      clear f1 f2 f3 f4 he
      by_cases he0 : e = 0
      · subst he0
        gi_wp2_with (refine ⟨trivial, ?_⟩; gi_at_call 26; go_loud (refine (callsIn_wide.2 HC.out).mono ?_; rintro en w1 ⟨rfl, hb⟩; have hj2 : J (upto n i (2 * (n * s)) (rh + sl) M t j) (w1.alloc (.cells #[.int .i64 x, .int .i64 y] 61)) := HJ.out _ _ _ none (HJ.out _ _ _ none J5.out (grown_of_below none hb) (by simp)) (World.grownBy_alloc _ _ none) (by simp); obtain ⟨fn, tm, as_, bd, hy, hR⟩ := HY.out _ (((j : Nat) : Int), x, y) _ hj2 (by have := upto_len n i (2 * (n * s)) (rh + sl) M t j; omega); dsimp only [encs3] at hy; have HB := Aside0.mk hb; clear hb hj2))
        refine hR.mono ?_
        rintro en W3 (⟨rfl, hj3, hk3⟩ | ⟨rfl, hx3⟩)
        · gi_wp2
          go_roundw
          case rel => exact ⟨j + 1, by go_num, by omega, ⟨(K5.out.trans (KeepOn.belowAlloc HB.out (HT.out _ K5.out) _)).trans hk3⟩, ⟨by rw [upto_in _ _ _ _ _ _ _ HE.out]; exact hj3⟩⟩
          case measure => simp [intOf]; omega
        · gi_wp2
          refine bodyPost_ret (results_none rfl _ _ _) rfl ?_
          exact ⟨⟨_, rfl⟩, .inr ⟨_, trivial, hx3⟩⟩
      · have heb : (e == 0) = false := beq_eq_false_iff_ne.2 he0
        gi_wp2_with (refine ⟨trivial, ?_⟩; gi_at_call 26; go_loud (refine (callsIn_wide.2 HC.out).mono ?_; rintro en w1 ⟨rfl, hb⟩; have HB := Aside0.mk hb; clear hb))
        refine ⟨fun _ h => (by cases h), ?_⟩
        gi_wp2
        go_roundw
        case rel => exact ⟨j + 1, by go_num, by omega, ⟨K5.out.trans (KeepOn.belowAlloc HB.out (HT.out _ K5.out) _)⟩, ⟨by rw [upto_out _ _ _ _ _ _ _ HE.out he0]; exact HJ.out _ _ _ none (HJ.out _ _ _ none J5.out (grown_of_below none HB.out) (by simp)) (World.grownBy_alloc _ _ none) (by simp)⟩⟩
        case measure => simp [intOf]; omega
    · have hltb : decide ((j : Int) < n) = false := decide_eq_false (by omega)
      gi_wp2
      go_end0
      exact ⟨⟨_, rfl⟩, .inl ⟨_, by rw [show n.toNat = j by omega], J5.out⟩⟩
end Go.Proofs.Ytfaikkhnlioajaa.Br7
end
section
namespace Go.Proofs.Ytfaikkhnlioajaa.Br8
open Go.RowKit Go.Proofs.YtfaikkhnlioajaaW.PrintWords Go.Proofs.YtfaikkhnlioajaaW.PrintLast Go.Proofs.YtfaikkhnlioajaaW.PrintMore 
attribute [local go_sem] max2_int min2_int max_two min_two max_three min_three max_four min_four
set_option linter.unusedVariables false
set_option linter.unusedSimpArgs false
open Go.Proofs.Ytfaikkhnlioajaa.QBase Go.Proofs.Ytfaikkhnlioajaa.Sch Go.Proofs.Ytfaikkhnlioajaa.Plc Go.Proofs.Ytfaikkhnlioajaa.Gd1 Go.Proofs.Ytfaikkhnlioajaa.Gd2 Go.Proofs.Ytfaikkhnlioajaa.Gd3 Go.Proofs.Ytfaikkhnlioajaa.Gd4 Go.Proofs.Ytfaikkhnlioajaa.BrP Go.Proofs.Ytfaikkhnlioajaa.Br1 Go.Proofs.Ytfaikkhnlioajaa.Br2 Go.Proofs.Ytfaikkhnlioajaa.Br3 Go.Proofs.Ytfaikkhnlioajaa.Br4 Go.Proofs.Ytfaikkhnlioajaa.Br5 Go.Proofs.Ytfaikkhnlioajaa.Br6 Go.Proofs.Ytfaikkhnlioajaa.Br7 Go.Maps
attribute [local go_sem] cellS1 frozenS1 cellS2 frozenS2 cellS3 frozenS3 cellS4 frozenS4 cellS5 frozenS5 cellS6 frozenS6
open Go.Shelf
attribute [local go_sem] Oper.semAt_some

def insB (e : Int) (x : Int × Int × Int) : Bool := ival_Inside.f x.2.1 x.2.2 e == some true
def nearL (e : Int) (l : List (Int × Int × Int)) : Int := 1 + (l.countP (insB e) : Nat)
theorem nearL_snoc (e : Int) (l : List (Int × Int × Int)) (x : Int × Int × Int) : nearL e (l ++ [x]) = if insB e x = true then nearL e l + 1 else nearL e l := by
  unfold nearL
  rw [List.countP_append, List.countP_singleton]
  split <;> simp <;> omega
theorem nearL_bd (e : Int) (l : List (Int × Int × Int)) : 1 ≤ nearL e l ∧ nearL e l ≤ 1 + (l.length : Nat) := by
  unfold nearL
  have := List.countP_le_length (p := insB e) (l := l)
  omega
set_option maxRecDepth 100000 in
set_option maxHeartbeats 8000000 in
theorem near_ok (g bm : Nat) (n f s dl ks ee wd rh sl cp i : Int) (k : Nat) (M : KM) (t : Int) (z w : World) (hI : IsT z w g bm n f s dl ks ee wd rh sl cp i) (hM : KMap w bm k M) (hMo : KOk M) (hk : Ok n f s dl ks ee wd rh sl cp) :
    Calls Try.prog 30 #[.pointer (some ⟨g, 0, none⟩), .int .i64 t] w fun en w' => en = .returned (.int .i64 (nearL ee (upto n i (2 * (n * s)) (rh + sl) M t n.toNat))) ∧ Below w.heap.size w w' := by
  have hee : 1 ≤ ee ∧ ee ≤ 40000 := by unfold Ok at hk; omega
  obtain ⟨e0, e1⟩ := hee
  have HI := Aside0.mk hI
  have HM := Aside0.mk hM
  have HMo := Aside0.mk hMo
  have HK := Aside0.mk hk
  clear hI hM hMo hk
  refine (callsIn_wide (n := 10)).1 (callsIn_of_wp_marks Try.func30 rfl trivial (wpIn_wide.2 ?_))
  simp only [Try.ntmps30, List.size_toArray, List.length_cons, List.length_nil, Nat.reduceAdd, Nat.reduceSub, Array.replicate_succ, Array.replicate_zero, List.push_toArray, List.append_toArray, List.nil_append, List.cons_append]
  go_wp2_with (first | (go_at_call 53; go_loud (refine (none_ok g bm n f s dl ks ee wd rh sl cp i z _ (IsT.alloc HI.out _)).mono ?_; rintro en w1 ⟨rfl, e1⟩; rw [e1]; clear e1)) | (go_at_call 58; go_loud (refine (all_ok g t _).mono ?_; rintro en w1 ⟨rfl, e1⟩; rw [e1]; clear e1)))
  refine wp_gen (fun W => W.heap.size = w.heap.size + 4 ∧ Below w.heap.size w W ∧ W.heap[w.heap.size]? = some (.cells #[.pointer (some ⟨g, 0, none⟩)] 55 (0, 0)) ∧ Boxed W (w.heap.size + 1) 3 (.int .i64 1) ∧ W.heap[w.heap.size + 1 + 1]? = some (.cells #[.pointer (some ⟨g, 0, none⟩)] 55 (0, 0)) ∧ W.heap[w.heap.size + 1 + 1 + 1]? = some (.cells #[.int .i64 t] 2 (0, 0))) ⟨by simp, below_alloc (below_alloc (below_alloc (below_alloc (Below.refl _ _) _) _) _) _, blk_alloc (blk_alloc (blk_alloc (blk_new _ _) _) _) _, Boxed.alloc (Boxed.alloc (by have := Boxed.new (w.alloc (.cells #[.pointer (some ⟨g, 0, none⟩)] 55)) 3 (.int .i64 1); rwa [World.size_alloc] at this) _) _, blk_alloc (by have := blk_new ((w.alloc (.cells #[.pointer (some ⟨g, 0, none⟩)] 55)).alloc (.cells #[.int .i64 1] 3)) (.cells #[.pointer (some ⟨g, 0, none⟩)] 55 (0, 0)); simpa using this) _, by have := blk_new (((w.alloc (.cells #[.pointer (some ⟨g, 0, none⟩)] 55)).alloc (.cells #[.int .i64 1] 3)).alloc (.cells #[.pointer (some ⟨g, 0, none⟩)] 55)) (.cells #[.int .i64 t] 2 (0, 0)); simpa using this⟩ ?_
  rintro W0 ⟨hsz, hB0, ht0, hn0, hp0, hp1⟩
  have hI0 := IsT.below HI.out hB0
  have hM0 := KMap.below HM.out hB0
  have hgl := blk_lt HI.out.1
  have hbl := KMap.lt HM.out
  have HIN := Aside0.mk (fun (x : Int × Int × Int) => inside_same x.2.1 x.2.2 ee (by omega) (by omega))
  refine (wpIn_wide (n := 10)).1 (wpIn_rangeFunc_ownH rfl (by omega) (gf := 75) (lb := #[.pointer (some ⟨w.heap.size + 1 + 1, 0, none⟩), .pointer (some ⟨w.heap.size + 1 + 1 + 1, 0, none⟩)]) rfl trivial (enters_of Try.func75 (by kernel_rfl) rfl)
    (all_stops g bm n f s dl ks ee wd rh sl cp i (w.heap.size + 1 + 1) (w.heap.size + 1 + 1 + 1) k M t 9 (by omega) z W0 hI0 hM0 hp0 hp1 HMo.out HK.out) (fun h k => h.trans k) (keepOn_b (by rintro j (rfl | rfl | rfl | rfl) <;> omega)) (Below.refl _ _) (fun _ => rfl)
    (fun pre W => Boxed W (w.heap.size + 1) 3 (.int .i64 (nearL ee pre)) ∧ W.heap[w.heap.size]? = some (.cells #[.pointer (some ⟨g, 0, none⟩)] 55 (0, 0)) ∧ Below w.heap.size w W ∧ W0.heap.size ≤ W.heap.size)
    (fun _ _ _ => False)
    (fun s X Y row hs hg hr => ⟨hs.1.kept hg (fun e => by have := (hr _ e.symm).1; omega), blk_grown hs.2.1 hg (fun e => by have := (hr _ e.symm).1; omega), hs.2.2.1.grown hg hs.2.2.1.size (fun j e => by have := (hr j e).1; omega), Nat.le_trans hs.2.2.2 hg.size⟩)
    (fun _ _ _ _ _ hs _ _ => hs.elim)
    ⟨hn0, ht0, hB0, Nat.le_refl _⟩
    (fun x a' W => ∃ Bx, w.heap.size + 3 < Bx ∧ W.heap[Bx]? = some (.cells #[.int .i64 x.2.1, .int .i64 x.2.2] 61 (0, 0)) ∧ a' = { tmps := #[.pointer (some ⟨g, 0, none⟩), .int .i64 t, .pointer (some ⟨w.heap.size, 0, none⟩), undef, .int .i64 0, .pointer (some ⟨w.heap.size + 1, 0, none⟩), undef, .pointer (some ⟨Bx, 0, none⟩), .pointer (some ⟨g, 0, none⟩), .bool false, .pointer (some ⟨g, 0, none⟩), .int .i64 t, .func (.func 75) #[] #[.pointer (some ⟨w.heap.size + 1 + 1, 0, none⟩), .pointer (some ⟨w.heap.size + 1 + 1 + 1, 0, none⟩)], .int .i64 x.1, .agg #[.int .i64 x.2.1, .int .i64 x.2.2], undef, undef, undef, undef, undef, undef, undef, undef, undef, undef], defers := [] })
    (fun x a' _ X Y row hs hg hr => ?hAx) ?assign ?body ?done ?stop)
  case hAx =>
    obtain ⟨Bx, h1, h2, h3⟩ := hs
    refine ⟨Bx, h1, blk_grown h2 hg (fun e => ?_), h3⟩
    obtain ⟨_, o, ho, hc⟩ := hr _ e.symm
    rw [h2] at ho
    cases ho
    cases hc
  case assign =>
    rintro l pre x W K hi hK
    have hT : ∀ j, T4 g bm (w.heap.size + 1 + 1) (w.heap.size + 1 + 1 + 1) j → j < W.heap.size := by have := hi.2.2.2; rintro j (rfl | rfl | rfl | rfl) <;> omega
    gi_wp2
    exact hK _ _ ((KeepsOthers.alloc _ _).from _) (KeepOn.grown (World.grownBy_alloc W _ none) (fun j hj => ⟨hT j hj, by simp⟩)) ⟨hi.1.alloc _, blk_alloc hi.2.1 _, below_alloc hi.2.2.1 _, Nat.le_trans hi.2.2.2 (by simp)⟩ ⟨W.heap.size, by have := hi.2.2.2; omega, blk_new _ _, rfl⟩
  case body =>
    rintro l pre x a' W hl ⟨r, hr⟩ ⟨h1, h2, h3, h4⟩ ⟨Bx, hBx, hb, rfl⟩ hlt
    have hT : ∀ j, T4 g bm (w.heap.size + 1 + 1) (w.heap.size + 1 + 1 + 1) j → j < W.heap.size ∧ j ≠ w.heap.size + 1 := by rintro j (rfl | rfl | rfl | rfl) <;> omega
    have x0 : W.cell? ⟨Bx, 0, none⟩ = some (.int .i64 x.2.1) := (blk_cell hb 0).trans rfl
    have x1 : W.cell? ⟨Bx, 1, none⟩ = some (.int .i64 x.2.2) := (blk_cell hb 1).trans rfl
    have t0 : W.cell? ⟨w.heap.size, 0, none⟩ = some (.pointer (some ⟨g, 0, none⟩)) := (blk_cell h2 0).trans rfl
    have g5 : W.cell? ⟨g, 5, none⟩ = some (.int .i64 ee) := (blk_cell (IsT.below HI.out h3).1 5).trans rfl
    obtain ⟨b, hin, _⟩ := HIN.out x
    have HINS := Aside0.mk (show insB ee x = b by unfold insB; rw [hin]; cases b <;> rfl)
    have HIN2 := Aside0.mk hin
    have hmx : Try.prog.follows .mixedOrders = true := by kernel_rfl
    have hnb := nearL_bd ee pre
    have H1 := Aside0.mk h1
    have H2 := Aside0.mk h2
    have H3 := Aside0.mk h3
    have HB := Aside0.mk hb
    have HTT := Aside0.mk hT
    clear hin h1 h2 h3 hb hT
    gi_wp2
    gi_region_with_o (refine ⟨trivial, ?_⟩; gi_at_call 29; refine (CallsIn.inRound l (callsIn_wide.2 (ival_Inside.calls _ _ _ b _ HIN2.out))).mono ?_; rintro en w5 ⟨rfl, hb5⟩; have n5 := Boxed.kept (show Boxed W.drew _ _ _ from H1.out) (grown_of_below none hb5) (by simp); have c5 := n5.cell; have f5 := n5.frozen; have HB5 := Aside0.mk hb5; have N5 := Aside0.mk n5; clear hb5 n5)
    all_goals gi_wp2
    all_goals
      have hb : Below W.heap.size W w5 := ⟨HB5.out.os, HB5.out.tape, HB5.out.output, HB5.out.size, HB5.out.block⟩
      have hkf := KeepsFrom.of_grownBy (B := W0.heap.size) (grown_of_below none hb) (by simp)
      have hko : KeepOn (T4 g bm (w.heap.size + 1 + 1) (w.heap.size + 1 + 1 + 1)) W w5 := KeepOn.grown (grown_of_below none hb) (fun j hj => ⟨(HTT.out j hj).1, by simp⟩)
      have hs5 := hb.size
      rename_i hbt
      have hin := HINS.out
      rw [hbt] at hin
      first
        | exact ⟨hkf.trans ((KeepsOthers.setCell _ _ _).from _), hko.trans (fun j hj => Below.heap_setCell _ _ _ j (HTT.out j hj).2), by rw [nearL_snoc, hin, if_pos rfl]; exact N5.out.set _, (Below.heap_setCell _ _ _ _ (by simp)).trans (blk_below H2.out hb), below_set (below_step H3.out hb) (by simp), by simp; omega⟩
        | exact ⟨hkf, hko, by rw [nearL_snoc, hin, if_neg (by decide)]; exact N5.out, blk_below H2.out hb, below_step H3.out hb, by omega⟩
  case done =>
    rintro D ys W hD rfl ⟨h1, h2, h3, h4⟩ hK
    have hc := h1.cell
    go_wp2
    refine ⟨by simp, .inl ⟨_, _, rfl, run_takeDeferred hK, ?_⟩⟩
    exact ⟨_, results_tmp rfl _ _ _, rfl, h3.trans (belowK_b (w := w) (Nat.le_refl _) W D _ _ (by omega) hK rfl rfl)⟩
  case stop =>
    rintro D c pre W _ _ h _
    exact h.elim
end Go.Proofs.Ytfaikkhnlioajaa.Br8
end
section
namespace Go.Proofs.Ytfaikkhnlioajaa.Br9
open Go.RowKit Go.Proofs.YtfaikkhnlioajaaW.PrintWords Go.Proofs.YtfaikkhnlioajaaW.PrintLast Go.Proofs.YtfaikkhnlioajaaW.PrintMore 
attribute [local go_sem] max2_int min2_int max_two min_two max_three min_three max_four min_four
set_option linter.unusedVariables false
set_option linter.unusedSimpArgs false
open Go.Proofs.Ytfaikkhnlioajaa.QBase Go.Proofs.Ytfaikkhnlioajaa.Sch Go.Proofs.Ytfaikkhnlioajaa.Plc Go.Proofs.Ytfaikkhnlioajaa.Gd1 Go.Proofs.Ytfaikkhnlioajaa.Gd2 Go.Proofs.Ytfaikkhnlioajaa.Gd3 Go.Proofs.Ytfaikkhnlioajaa.Gd4 Go.Proofs.Ytfaikkhnlioajaa.BrP Go.Proofs.Ytfaikkhnlioajaa.Br1 Go.Proofs.Ytfaikkhnlioajaa.Br2 Go.Proofs.Ytfaikkhnlioajaa.Br3 Go.Proofs.Ytfaikkhnlioajaa.Br4 Go.Proofs.Ytfaikkhnlioajaa.Br5 Go.Proofs.Ytfaikkhnlioajaa.Br6 Go.Proofs.Ytfaikkhnlioajaa.Br7 Go.Proofs.Ytfaikkhnlioajaa.Br8 Go.Maps
attribute [local go_sem] cellS1 frozenS1 cellS2 frozenS2 cellS3 frozenS3 cellS4 frozenS4 cellS5 frozenS5 cellS6 frozenS6
open Go.Shelf
attribute [local go_sem] Oper.semAt_some

theorem info3e : (Try.prog.info? 3).map (fun i => (i.zero, i.size, i.bytes)) = some (some (.int .i64 0), 1, 8) := by kernel_rfl
theorem cells_new (w : World) (cs : Array Value) (t : TypeId) (j : Nat) (u : Value) (h : cs.toList[j]? = some u) : (w.alloc (.cells cs t (0, 0))).cell? ((⟨w.heap.size, 0, none⟩ : Addr).add j) = some u := by
  have := blk_cell (blk_new w (.cells cs t (0, 0))) j
  rw [show ((⟨w.heap.size, 0, none⟩ : Addr).add j) = ⟨w.heap.size, j, none⟩ by simp [Addr.add] <;> omega, this]
  simpa using h
/-- A box that holds a slice of the call's own. -/
def Row (n0 B : Nat) (T e : TypeId) (size m : Nat) (xs : List Value) (W : World) : Prop := ∃ v, Boxed W B T v ∧ W.ownsRow n0 e size v m xs
theorem Row.grown {n0 B : Nat} {T e : TypeId} {size m : Nat} {xs : List Value} {X Y : World} {row : Option Nat} (h : Row n0 B T e size m xs X) (hg : X.grownBy Y row) (hr : ∀ r, row = some r → ∃ o : Obj, X.heap[r]? = some o ∧ o.isCells = false) : Row n0 B T e size m xs Y := by
  obtain ⟨v, h1, h2⟩ := h
  refine ⟨v, h1.kept hg (fun e => ?_), h2.kept hg ?_⟩
  · obtain ⟨o, ho, hc⟩ := hr _ e.symm
    rw [show X.heap[B]? = _ from h1] at ho
    cases ho
    cases hc
  · rcases h2.2 with ⟨rfl, _⟩ | ⟨b, cap, cur, rfl, _, hgb, _⟩
    · exact Or.inl rfl
    · refine Or.inr (fun e' => ?_)
      obtain ⟨o, ho, hc⟩ := hr b (by rw [← e']; rfl)
      rw [hgb] at ho
      cases ho
      cases hc
theorem row_appended {W w1 : World} {n1 B : Nat} {t e : TypeId} {size : Nat} {v v' : Value} {k m : Nat} {xs ys : List Value} {tmp : Obj} (hv : Boxed W B t v) (hte : t ≠ e) (hrow : W.ownsRow n1 e size v k xs) (hn : n1 ≤ W.heap.size) (hown' : w1.ownsRow n1 e size v' m ys) (hgrow : (W.alloc tmp).grownBy w1 v.ownBlock) :
    Boxed w1 B t v ∧ Boxed (w1.setCell ⟨B, 0, none⟩ v') B t v' ∧ (w1.setCell ⟨B, 0, none⟩ v').ownsRow n1 e size v' m ys ∧ KeepsOthers W (w1.setCell ⟨B, 0, none⟩ v') ∧ (∀ j, j < W.heap.size → j < n1 ∨ (∃ cs t', t' ≠ e ∧ W.heap[j]? = some (.cells cs t' (0, 0))) → j ≠ B → (w1.setCell ⟨B, 0, none⟩ v').heap[j]? = W.heap[j]?) ∧ (∀ n0, n0 ≤ n1 → n0 ≤ B → Below n0 W (w1.setCell ⟨B, 0, none⟩ v')) := by
  have hv1 : Boxed w1 B t v := (hv.alloc tmp).kept hgrow (hv.not_row hte hrow)
  have hrw : ∀ j, some j = v.ownBlock → n1 ≤ j ∧ ∃ cs, W.heap[j]? = some (.cells cs e (0, 0)) := fun j ej => by
    rcases hrow.2 with ⟨rfl, _⟩ | ⟨g, cap, cur, rfl, hb, hgb, _⟩
    · simp [Value.ownBlock] at ej
    · obtain rfl : g = j := by simpa [Value.ownBlock] using ej.symm
      exact ⟨hb, cur, hgb⟩
  have hsz : W.heap.size ≤ w1.heap.size := Nat.le_trans (by simp) hgrow.size
  have same : ∀ j, j < W.heap.size → some j ≠ v.ownBlock → w1.heap[j]? = W.heap[j]? := fun j hj hne => (hgrow.block j (by simp; omega) hne).trans (Below.heap_alloc W tmp j hj)
  refine ⟨hv1, hv1.set v', hown'.kept (grownBy_setCell' w1 B v') (.inr (hv1.not_row hte hown').symm), ?_, ?_, ?_⟩
  · refine ⟨Nat.le_trans hsz (by simp), fun j o hj ho => ?_⟩
    have hlt := blk_lt hj
    refine ((Below.heap_setCell _ _ _ j (fun ej => ?_)).trans (same j hlt (fun ej => ?_))).trans hj
    · rw [show j = B from ej, show W.heap[B]? = _ from hv] at hj
      cases hj
      cases ho
    · obtain ⟨_, cs, hcs⟩ := hrw j ej
      rw [hcs] at hj
      cases hj
      cases ho
  · intro j hj hor hne
    refine (Below.heap_setCell _ _ _ j hne).trans (same j hj (fun ej => ?_))
    obtain ⟨h1, cs, hcs⟩ := hrw j ej
    rcases hor with h | ⟨cs', t', hte', h⟩
    · omega
    · rw [hcs] at h
      cases h
      exact hte' rfl
  · intro n0 h0 hB
    exact ⟨hgrow.os, hgrow.tape, hgrow.output, Nat.le_trans hsz (by simp), fun j hj => (Below.heap_setCell _ _ _ j (by show j ≠ B; omega)).trans (same j (by omega) (fun ej => by have := (hrw j ej).1; omega))⟩
def freshV (l : List (Int × Int × Int)) : List Value := l.map (fun x => .int .i64 x.1)
set_option maxRecDepth 100000 in
set_option maxHeartbeats 8000000 in
theorem fresh_ok (g bm : Nat) (n f s dl ks ee wd rh sl cp i : Int) (k : Nat) (M : KM) (t : Int) (z w : World) (hI : IsT z w g bm n f s dl ks ee wd rh sl cp i) (hM : KMap w bm k M) (hMo : KOk M) (hk : Ok n f s dl ks ee wd rh sl cp) :
    Calls Try.prog 31 #[.pointer (some ⟨g, 0, none⟩), .int .i64 t] w fun en w' => ∃ v, en = .returned v ∧ w'.ownsRow w.heap.size 3 1 v (upto n i (2 * (n * s)) (rh + sl) M t n.toNat).length (freshV (upto n i (2 * (n * s)) (rh + sl) M t n.toNat)) ∧ Below w.heap.size w w' := by
  obtain ⟨i0, hi, hz0, hz1, hz2⟩ := info_parts info3e
  have HI := Aside0.mk hI
  have HM := Aside0.mk hM
  have HMo := Aside0.mk hMo
  have HK := Aside0.mk hk
  clear hI hM hMo hk
  refine (callsIn_wide (n := 10)).1 (callsIn_of_wp_marks Try.func31 rfl trivial (wpIn_wide.2 ?_))
  simp only [Try.ntmps31, List.size_toArray, List.length_cons, List.length_nil, Nat.reduceAdd, Nat.reduceSub, Array.replicate_succ, Array.replicate_zero, List.push_toArray, List.append_toArray, List.nil_append, List.cons_append]
  go_wp2_with (first | (go_at_call 53; go_loud (refine (none_ok g bm n f s dl ks ee wd rh sl cp i z _ HI.out).mono ?_; rintro en w1 ⟨rfl, e1⟩; rw [e1]; clear e1)) | (go_at_call 58; go_loud (refine (all_ok g t _).mono ?_; rintro en w1 ⟨rfl, e1⟩; rw [e1]; clear e1)))
  refine wp_gen (fun W => W.heap.size = w.heap.size + 3 ∧ Below w.heap.size w W ∧ Boxed W w.heap.size 48 (.slice none 0 0) ∧ W.heap[w.heap.size + 1]? = some (.cells #[.pointer (some ⟨g, 0, none⟩)] 55 (0, 0)) ∧ W.heap[w.heap.size + 1 + 1]? = some (.cells #[.int .i64 t] 2 (0, 0))) ⟨by simp, below_alloc (below_alloc (below_alloc (Below.refl _ _) _) _) _, Boxed.alloc (Boxed.alloc (Boxed.new w 48 (.slice none 0 0)) _) _, blk_alloc (by have := blk_new (w.alloc (.cells #[.slice none 0 0] 48)) (.cells #[.pointer (some ⟨g, 0, none⟩)] 55 (0, 0)); simpa using this) _, by have := blk_new ((w.alloc (.cells #[.slice none 0 0] 48)).alloc (.cells #[.pointer (some ⟨g, 0, none⟩)] 55)) (.cells #[.int .i64 t] 2 (0, 0)); simpa using this⟩ ?_
  rintro W0 ⟨hsz, hB0, hn0, hp0, hp1⟩
  have hI0 := IsT.below HI.out hB0
  have hM0 := KMap.below HM.out hB0
  have hgl := blk_lt HI.out.1
  have hbl := KMap.lt HM.out
  refine (wpIn_wide (n := 10)).1 (wpIn_rangeFunc_ownH rfl (by omega) (gf := 75) (lb := #[.pointer (some ⟨w.heap.size + 1, 0, none⟩), .pointer (some ⟨w.heap.size + 1 + 1, 0, none⟩)]) rfl trivial (enters_of Try.func75 (by kernel_rfl) rfl)
    (all_stops g bm n f s dl ks ee wd rh sl cp i (w.heap.size + 1) (w.heap.size + 1 + 1) k M t 9 (by omega) z W0 hI0 hM0 hp0 hp1 HMo.out HK.out) (fun h k => h.trans k) (keepOn_b (by rintro j (rfl | rfl | rfl | rfl) <;> omega)) (Below.refl _ _) (fun _ => rfl)
    (fun pre W => Row W0.heap.size w.heap.size 48 3 1 pre.length (freshV pre) W ∧ Below w.heap.size w W ∧ W0.heap.size ≤ W.heap.size)
    (fun _ _ _ => False)
    (fun s X Y row hs hg hr => ⟨hs.1.grown hg (fun r e => (hr r e).2), hs.2.1.grown hg hs.2.1.size (fun j e => by have := (hr j e).1; omega), Nat.le_trans hs.2.2 hg.size⟩)
    (fun _ _ _ _ _ hs _ _ => hs.elim)
    ⟨⟨_, hn0, World.ownsRow_nil _ _ _ _⟩, hB0, Nat.le_refl _⟩
    (fun x a' W => a' = { tmps := #[.pointer (some ⟨g, 0, none⟩), .int .i64 t, undef, undef, .slice none 0 0, .pointer (some ⟨w.heap.size, 0, none⟩), .int .i64 x.1, .pointer (some ⟨g, 0, none⟩), .bool false, .pointer (some ⟨g, 0, none⟩), .int .i64 t, .func (.func 75) #[] #[.pointer (some ⟨w.heap.size + 1, 0, none⟩), .pointer (some ⟨w.heap.size + 1 + 1, 0, none⟩)], .int .i64 x.1, .agg #[.int .i64 x.2.1, .int .i64 x.2.2], undef, undef, undef, undef, undef], defers := [] }) (fun x a' _ X Y row hs hg hr => hs) ?assign ?body ?done ?stop)
  case assign =>
    rintro l pre x W K hi hK
    gi_wp2
    exact hK _ _ (KeepsFrom.refl _ _) (KeepOn.refl _ _) hi rfl
  case body =>
    rintro l pre x a' W hl ⟨r, hr⟩ ⟨⟨v, hv, hrow⟩, hB, hsW⟩ rfl hlt
    have hT : ∀ j, T4 g bm (w.heap.size + 1) (w.heap.size + 1 + 1) j → j < W.heap.size ∧ j ≠ w.heap.size := by rintro j (rfl | rfl | rfl | rfl) <;> omega
    have hc := hv.cell
    have hf := hv.frozen
    have hle : w.heap.size ≤ w.heap.size := Nat.le_refl _
    have HTT := Aside0.mk hT
    clear hT
    gi_wp2_with (first | (gi_at_builtin; refine wpListIn_append_own _ rfl _ _ 48 rfl W0.heap.size 3 i0 (.int .i64 0) 1 8 Try.underlying48 hi hz0 hz1 hz2 rfl (by decide) _ _ _ rfl (hrow.alloc _) ⟨W.heap.size, 0, none⟩ 1 1 [.int .i64 x.1] rfl rfl (cell_one_new _ _ _) (by simp [Value.oneCell']) (by unfold maxLen; omega) (by omega) (by simp; omega) ?_; intro v' w1 hown' hgrow _; obtain ⟨g', cap', rfl⟩ := ownsRow_succ hown'; obtain ⟨hv1, hv2, hr2, hk2, hs2, hb2⟩ := row_appended hv (by decide) hrow hsW hown' hgrow; have hc1 := hv1.cell; have hf1 := hv1.frozen))
    exact ⟨hk2.from _, fun j hj => hs2 j (HTT.out j hj).1 (Or.inl (by have := (HTT.out j hj).1; rcases hj with rfl | rfl | rfl | rfl <;> omega)) (HTT.out j hj).2, ⟨_, hv2, by rw [List.length_append]; unfold freshV; rw [List.map_append]; exact hr2⟩, hB.trans (hb2 _ (by omega) (Nat.le_refl _)), Nat.le_trans hsW hk2.size⟩
  case done =>
    rintro D ys W hD rfl ⟨⟨v, hv, hrow⟩, hB, hsW⟩ hK
    have hc := hv.cell
    go_wp2
    refine ⟨by simp, .inl ⟨_, _, rfl, run_takeDeferred hK, ?_⟩⟩
    exact ⟨_, results_tmp rfl _ _ _, _, rfl, Go.Joins.ownsRow_le (ownsRow_putObj hrow _ hK rfl) (by omega), hB.trans (belowK_b (w := w) (Nat.le_refl _) W D _ _ (by omega) hK rfl rfl)⟩
  case stop =>
    rintro D c pre W _ _ h _
    exact h.elim
end Go.Proofs.Ytfaikkhnlioajaa.Br9
end
section
namespace Go.Proofs.Ytfaikkhnlioajaa.BrA
open Go.RowKit Go.Proofs.YtfaikkhnlioajaaW.PrintWords Go.Proofs.YtfaikkhnlioajaaW.PrintLast Go.Proofs.YtfaikkhnlioajaaW.PrintMore 
attribute [local go_sem] max2_int min2_int max_two min_two max_three min_three max_four min_four
set_option linter.unusedVariables false
set_option linter.unusedSimpArgs false
open Go.Proofs.Ytfaikkhnlioajaa.QBase Go.Proofs.Ytfaikkhnlioajaa.Sch Go.Proofs.Ytfaikkhnlioajaa.Plc Go.Proofs.Ytfaikkhnlioajaa.Gd1 Go.Proofs.Ytfaikkhnlioajaa.Gd2 Go.Proofs.Ytfaikkhnlioajaa.Gd3 Go.Proofs.Ytfaikkhnlioajaa.Gd4 Go.Proofs.Ytfaikkhnlioajaa.BrP Go.Proofs.Ytfaikkhnlioajaa.Br1 Go.Proofs.Ytfaikkhnlioajaa.Br2 Go.Proofs.Ytfaikkhnlioajaa.Br3 Go.Proofs.Ytfaikkhnlioajaa.Br4 Go.Proofs.Ytfaikkhnlioajaa.Br5 Go.Proofs.Ytfaikkhnlioajaa.Br6 Go.Proofs.Ytfaikkhnlioajaa.Br7 Go.Proofs.Ytfaikkhnlioajaa.Br8 Go.Proofs.Ytfaikkhnlioajaa.Br9 Go.Maps
attribute [local go_sem] cellS1 frozenS1 cellS2 frozenS2 cellS3 frozenS3 cellS4 frozenS4 cellS5 frozenS5 cellS6 frozenS6
open Go.Shelf
attribute [local go_sem] Oper.semAt_some

/-- All cells but block g's lie as they lay. -/
def CellsBut (g : Nat) (w w' : World) : Prop := ∀ j cs t fr, j ≠ g → w.heap[j]? = some (.cells cs t fr) → w'.heap[j]? = some (.cells cs t fr)
theorem CellsBut.of_below {g : Nat} {w w' : World} (h : Below w.heap.size w w') : CellsBut g w w' := fun j cs t fr _ hj => (h.block j (blk_lt hj)).trans hj
/-- A table in memory that knows M. -/
def Tab (z w : World) (g : Nat) (n f s dl ks ee wd rh sl cp i : Int) (M : KM) (K : Nat) : Prop := ∃ bm k, IsT z w g bm n f s dl ks ee wd rh sl cp i ∧ KMap w bm k M ∧ z.heap.size ≤ bm ∧ k ≤ K
theorem Tab.below {z w w' : World} {g : Nat} {n f s dl ks ee wd rh sl cp i : Int} {M : KM} {K : Nat} (h : Tab z w g n f s dl ks ee wd rh sl cp i M K) (hb : Below w.heap.size w w') : Tab z w' g n f s dl ks ee wd rh sl cp i M K := by
  obtain ⟨bm, k, h1, h2, h3, h4⟩ := h
  exact ⟨bm, k, IsT.below h1 hb, KMap.below h2 hb, h3, h4⟩
theorem Tab.alloc {z w : World} {g : Nat} {n f s dl ks ee wd rh sl cp i : Int} {M : KM} {K : Nat} (h : Tab z w g n f s dl ks ee wd rh sl cp i M K) (o : Obj) : Tab z (w.alloc o) g n f s dl ks ee wd rh sl cp i M K := h.below (below_alloc (Below.refl _ _) o)
theorem Tab.drewN {z w : World} {g : Nat} {n f s dl ks ee wd rh sl cp i : Int} {M : KM} {K : Nat} (h : Tab z w g n f s dl ks ee wd rh sl cp i M K) (m : Nat) : Tab z (w.drewN m) g n f s dl ks ee wd rh sl cp i M K := h
theorem Tab.mono {z w : World} {g : Nat} {n f s dl ks ee wd rh sl cp i : Int} {M : KM} {K L : Nat} (h : Tab z w g n f s dl ks ee wd rh sl cp i M K) (hl : K ≤ L) : Tab z w g n f s dl ks ee wd rh sl cp i M L := by
  obtain ⟨bm, k, h1, h2, h3, h4⟩ := h
  exact ⟨bm, k, h1, h2, h3, Nat.le_trans h4 hl⟩
theorem tab_new (n f s dl ks ee wd rh sl cp i : Int) (w : World) (hk : Ok n f s dl ks ee wd rh sl cp) (i0 : 0 ≤ i) (i1 : i < n) : Calls Try.prog 22 #[.agg #[.int .i64 n, .int .i64 f, .int .i64 s, .int .i64 dl, .int .i64 ks, .int .i64 ee, .int .i64 wd, .int .i64 rh, .int .i64 sl, .int .i64 cp], .int .i64 i] w fun en w' => ∃ g, en = .returned (.tuple #[.pointer (some ⟨g, 0, none⟩), .int .i64 0]) ∧ Tab w w' g n f s dl ks ee wd rh sl cp i (fun _ => none) 0 ∧ Below w.heap.size w w' :=
  (Br4.new_yes n f s dl ks ee wd rh sl cp i w hk i0 i1).mono fun en w' ⟨g, bm, h1, h2, h3, h4, h5⟩ => ⟨g, h1, ⟨bm, 0, h2, KMap.made h3, h4, Nat.le_refl _⟩, h5⟩
theorem tab_at (g : Nat) (n f s dl ks ee wd rh sl cp i : Int) (r t x y e : Int) (z w : World) (M : KM) (K : Nat) (h : Tab z w g n f s dl ks ee wd rh sl cp i M K) (hMo : KOk M) (hk : Ok n f s dl ks ee wd rh sl cp) (ha : atF n i (2 * (n * s)) (rh + sl) M r t = (x, y, e)) : Calls Try.prog 26 #[.pointer (some ⟨g, 0, none⟩), .int .i64 r, .int .i64 t] w fun en w' => en = .returned (.tuple #[.agg #[.int .i64 x, .int .i64 y], .int .i64 e]) ∧ Below w.heap.size w w' := by
  obtain ⟨bm, k, h1, h2, h3, h4⟩ := h
  exact at_any g bm n f s dl ks ee wd rh sl cp i r t x y e z w h1 k M h2 hMo hk ha
theorem tab_most (g : Nat) (n f s dl ks ee wd rh sl cp i : Int) (r t x y e p q : Int) (z w : World) (M : KM) (K : Nat) (h : Tab z w g n f s dl ks ee wd rh sl cp i M K) (hMo : KOk M) (hk : Ok n f s dl ks ee wd rh sl cp) (ha : atF n i (2 * (n * s)) (rh + sl) M r t = (x, y, e)) (hq : mostF (x, y, e) t = (p, q)) : Calls Try.prog 27 #[.pointer (some ⟨g, 0, none⟩), .int .i64 r, .int .i64 t] w fun en w' => en = .returned (.tuple #[.int .i64 p, .int .i64 q]) ∧ Below w.heap.size w w' := by
  obtain ⟨bm, k, h1, h2, h3, h4⟩ := h
  exact most_any g bm n f s dl ks ee wd rh sl cp i r t x y e p q z w h1 k M h2 hMo hk ha hq
theorem tab_near (g : Nat) (n f s dl ks ee wd rh sl cp i : Int) (t a : Int) (z w : World) (M : KM) (K : Nat) (h : Tab z w g n f s dl ks ee wd rh sl cp i M K) (hMo : KOk M) (hk : Ok n f s dl ks ee wd rh sl cp) (ha : nearL ee (upto n i (2 * (n * s)) (rh + sl) M t n.toNat) = a) : Calls Try.prog 30 #[.pointer (some ⟨g, 0, none⟩), .int .i64 t] w fun en w' => en = .returned (.int .i64 a) ∧ Below w.heap.size w w' := by
  obtain ⟨bm, k, h1, h2, h3, h4⟩ := h
  subst ha
  exact near_ok g bm n f s dl ks ee wd rh sl cp i k M t z w h1 h2 hMo hk
theorem tab_fresh (g : Nat) (n f s dl ks ee wd rh sl cp i : Int) (t : Int) (l : List (Int × Int × Int)) (z w : World) (M : KM) (K : Nat) (h : Tab z w g n f s dl ks ee wd rh sl cp i M K) (hMo : KOk M) (hk : Ok n f s dl ks ee wd rh sl cp) (ha : upto n i (2 * (n * s)) (rh + sl) M t n.toNat = l) : Calls Try.prog 31 #[.pointer (some ⟨g, 0, none⟩), .int .i64 t] w fun en w' => ∃ v, en = .returned v ∧ w'.ownsRow w.heap.size 3 1 v l.length (freshV l) ∧ Below w.heap.size w w' := by
  obtain ⟨bm, k, h1, h2, h3, h4⟩ := h
  subst ha
  exact fresh_ok g bm n f s dl ks ee wd rh sl cp i k M t z w h1 h2 hMo hk
theorem tab_put (g : Nat) (n f s dl ks ee wd rh sl cp i : Int) (r lo hi t a : Int) (M' : KM) (z w : World) (M : KM) (K : Nat) (h : Tab z w g n f s dl ks ee wd rh sl cp i M K) (hB : Below z.heap.size z w) (hMo : KOk M) (hK : K ≤ 100000) (hk : Ok n f s dl ks ee wd rh sl cp) (hp : putF n i (2 * (n * s)) (rh + sl) M r lo hi t = (a, M')) : Calls Try.prog 25 #[.pointer (some ⟨g, 0, none⟩), .int .i64 r, .agg #[.int .i64 lo, .int .i64 hi], .int .i64 t] w fun en w' => en = .returned (.int .i64 a) ∧ Tab z w' g n f s dl ks ee wd rh sl cp i M' (K + 1) ∧ Below z.heap.size z w' ∧ CellsBut g w w' := by
  obtain ⟨bm, k, h1, h2, h3, h4⟩ := h
  refine (put_any g bm n f s dl ks ee wd rh sl cp i r lo hi t z w h1 k M h2 hMo hB (by omega) hk).mono ?_
  rw [hp]
  rintro en w' ⟨e1, e2, e3⟩
  refine ⟨e1, ⟨bm, k + 1, IsT.kept h1 e3 (fun e => KMap.ne h2 h1.1 (by cases e; rfl)), e2, h3, by omega⟩, hB.grown e3 hB.size (fun j e => by cases e; exact h3), fun j cs t' fr hne hj => ?_⟩
  refine (e3.block j (blk_lt hj) (fun e => ?_)).trans hj
  cases e
  obtain ⟨D, ⟨es, cl, q1, q2, q3, q4⟩, q5⟩ := h2
  rw [hj] at q1
  cases q1
theorem tab_clear (g : Nat) (n f s dl ks ee wd rh sl cp i : Int) (z w : World) (M : KM) (K : Nat) (h : Tab z w g n f s dl ks ee wd rh sl cp i M K) (hB : Below z.heap.size z w) : Calls Try.prog 33 #[.pointer (some ⟨g, 0, none⟩)] w fun en w' => en = .returned (.tuple #[]) ∧ Tab z w' g n f s dl ks ee wd rh sl cp i (fun _ => none) 0 ∧ Below z.heap.size z w' ∧ CellsBut g w w' := by
  obtain ⟨bm, k, h1, h2, h3, h4⟩ := h
  refine (clear_ok g bm n f s dl ks ee wd rh sl cp i z w h1 hB).mono ?_
  rintro en w' ⟨b', e1, e2, e3, e4, e5, e6⟩
  exact ⟨e1, ⟨b', 0, e2, e3, e4, Nat.le_refl _⟩, e5, fun j cs t' fr hne hj => (e6.block j (blk_lt hj) (fun e => hne (by cases e; rfl))).trans hj⟩
theorem usual_ok : Ok 3 0 400 1 16 400 400 1 2 8 := by unfold Ok; omega
set_option maxRecDepth 100000 in
set_option maxHeartbeats 4000000 in
theorem awake_ok (w : World) : Calls Try.prog 24 #[] w fun en w' => en = .returned (.bool true) ∧ Below w.heap.size w w' := by
  have HK := Aside0.mk usual_ok
  obtain ⟨M', hM'⟩ : ∃ M', (fun v => if v = 1 then some (newF (atF 3 0 (2 * (3 * 400)) (1 + 2) (fun _ => none) 1 0) (-5) 6 0) else none : KM) = M' := ⟨_, rfl⟩
  have HP : Aside0 (putF 3 0 (2 * (3 * 400)) (1 + 2) (fun _ => none) 1 (-5) 6 0 = (0, M')) := ⟨by rw [← hM']; unfold putF; rw [if_pos (by decide), if_pos (by unfold R; omega), if_neg (by decide)]⟩
  have HO : Aside0 (KOk M') := ⟨by have := putF_ok 3 0 (2 * (3 * 400)) (1 + 2) (fun _ => none) 1 (-5) 6 0 (fun _ _ _ _ h => by cases h); rw [HP.out] at this; exact this⟩
  have HN : Aside0 (nearL 400 (upto 3 0 (2 * (3 * 400)) (1 + 2) M' 0 (3 : Int).toNat) = 2) := ⟨by rw [← hM']; decide +kernel⟩
  clear hM'
  go_enter Try.func24, Try.ntmps24
  go_wp2_with (first | (go_at_call 23; go_loud (refine (carillonlaw24_usual.calls 3 0 400 1 16 400 400 1 2 8 _ rfl).mono ?_; rintro en w1 ⟨rfl, hb1⟩; have HB1 := Aside0.mk hb1; clear hb1)) | (go_at_call 22; go_loud (refine (tab_new 3 0 400 1 16 400 400 1 2 8 0 _ HK.out (by omega) (by omega)).mono ?_; rintro en w2 ⟨g, rfl, a1, a2⟩; have T2 := Aside0.mk a1; have B2 := Aside0.mk a2; clear a1 a2)) | (go_at_call 25; go_loud (refine (tab_put g 3 0 400 1 16 400 400 1 2 8 0 1 (-5) 6 0 0 M' _ _ (fun _ => none) 0 T2.out B2.out (fun _ _ _ _ h => by cases h) (by omega) HK.out HP.out).mono ?_; rintro en w3 ⟨rfl, a1, a2, a3⟩; have T3 := Aside0.mk a1; have B3 := Aside0.mk a2; clear a1 a2 a3)) | (go_at_call 30; go_loud (refine (tab_near g 3 0 400 1 16 400 400 1 2 8 0 0 2 _ _ M' 1 T3.out HO.out HK.out HN.out).mono ?_; rintro en w4 ⟨rfl, a1⟩; have B4 := Aside0.mk (below_step B3.out a1); clear a1)))
  go_ret
  exact ⟨rfl, HB1.out.trans (B4.out.mono HB1.out.size)⟩
end Go.Proofs.Ytfaikkhnlioajaa.BrA
end
section
namespace Go.Proofs.Ytfaikkhnlioajaa.BrD
open Go.RowKit Go.Proofs.YtfaikkhnlioajaaW.PrintWords Go.Proofs.YtfaikkhnlioajaaW.PrintLast Go.Proofs.YtfaikkhnlioajaaW.PrintMore 
attribute [local go_sem] max2_int min2_int max_two min_two max_three min_three max_four min_four
set_option linter.unusedVariables false
set_option linter.unusedSimpArgs false
open Go.Proofs.Ytfaikkhnlioajaa.QBase Go.Proofs.Ytfaikkhnlioajaa.Sch Go.Proofs.Ytfaikkhnlioajaa.Plc Go.Proofs.Ytfaikkhnlioajaa.Gd1 Go.Proofs.Ytfaikkhnlioajaa.Gd2 Go.Proofs.Ytfaikkhnlioajaa.Gd3 Go.Proofs.Ytfaikkhnlioajaa.Gd4 Go.Proofs.Ytfaikkhnlioajaa.BrP Go.Proofs.Ytfaikkhnlioajaa.Br1 Go.Proofs.Ytfaikkhnlioajaa.Br2 Go.Proofs.Ytfaikkhnlioajaa.Br3 Go.Proofs.Ytfaikkhnlioajaa.Br4 Go.Proofs.Ytfaikkhnlioajaa.Br5 Go.Proofs.Ytfaikkhnlioajaa.Br6 Go.Proofs.Ytfaikkhnlioajaa.Br7 Go.Proofs.Ytfaikkhnlioajaa.Br8 Go.Proofs.Ytfaikkhnlioajaa.Br9 Go.Maps
attribute [local go_sem] cellS1 frozenS1 cellS2 frozenS2 cellS3 frozenS3 cellS4 frozenS4 cellS5 frozenS5 cellS6 frozenS6
open Go.Shelf
attribute [local go_sem] Oper.semAt_some

theorem own_base {W : World} {b n : Nat} {e : TypeId} {size : Nat} {v : Value} {xs : List Value} {j : Nat} (h : W.ownsRow b e size v n xs) (hj : v.ownBlock = some j) : b ≤ j := by
  rcases h.2 with ⟨rfl, _⟩ | ⟨g, cap, cur, rfl, hb, hgb, _⟩
  · simp [Value.ownBlock] at hj
  · simp [Value.ownBlock] at hj
    omega
theorem row_same {W w1 : World} {B : Nat} {v v' : Value} {tmp : Obj} (hgrow : (W.alloc tmp).grownBy w1 v.ownBlock) {j : Nat} (hj : j < W.heap.size) (hne : v.ownBlock ≠ some j) (hB : j ≠ B) : (w1.setCell ⟨B, 0, none⟩ v').heap[j]? = W.heap[j]? :=
  (Below.heap_setCell _ _ _ j hB).trans ((hgrow.block j (by simp; omega) (fun e => hne e.symm)).trans (Below.heap_alloc W tmp j hj))
theorem first_app {W w1 w : World} {n1 Bx m c g' : Nat} {v : Value} {k : Nat} {xs ys : List Value} {tmp : Obj} {x1 x2 : Int} (hv : Boxed W (w.heap.size + 1) 70 v) (hrow : W.ownsRow n1 61 2 v k xs) (hn : n1 ≤ W.heap.size) (h5 : w.heap.size + 5 ≤ n1) (ho : Boxed W (w.heap.size + 1 + 1) 4 (.bool false)) (hb : W.heap[Bx]? = some (.cells #[.int .i64 x1, .int .i64 x2] 61 (0, 0))) (hne : v.ownBlock ≠ some Bx) (hBx : w.heap.size + 4 < Bx)
    (hown' : w1.ownsRow n1 61 2 (.slice (some ⟨g', 0, none⟩) m c) m ys) (hgrow : (W.alloc tmp).grownBy w1 v.ownBlock) :
    Boxed w1 (w.heap.size + 1) 70 v ∧ w1.cell? ⟨w.heap.size + 1, 0, none⟩ = some v ∧ w1.frozen? ⟨w.heap.size + 1, 0, none⟩ = false ∧ (∀ j, j < W.heap.size → v.ownBlock ≠ some j → j ≠ w.heap.size + 1 → (w1.setCell ⟨w.heap.size + 1, 0, none⟩ (.slice (some ⟨g', 0, none⟩) m c)).heap[j]? = W.heap[j]?) ∧ (∀ j, j < n1 → v.ownBlock ≠ some j) ∧
    Boxed (w1.setCell ⟨w.heap.size + 1, 0, none⟩ (.slice (some ⟨g', 0, none⟩) m c)) (w.heap.size + 1 + 1) 4 (.bool false) ∧
    (w1.setCell ⟨w.heap.size + 1, 0, none⟩ (.slice (some ⟨g', 0, none⟩) m c)).cell? ⟨w.heap.size + 1 + 1, 0, none⟩ = some (.bool false) ∧ (w1.setCell ⟨w.heap.size + 1, 0, none⟩ (.slice (some ⟨g', 0, none⟩) m c)).frozen? ⟨w.heap.size + 1 + 1, 0, none⟩ = false ∧
    Boxed ((w1.setCell ⟨w.heap.size + 1, 0, none⟩ (.slice (some ⟨g', 0, none⟩) m c)).setCell ⟨w.heap.size + 1 + 1, 0, none⟩ (.bool true)) (w.heap.size + 1 + 1) 4 (.bool true) ∧ Boxed ((w1.setCell ⟨w.heap.size + 1, 0, none⟩ (.slice (some ⟨g', 0, none⟩) m c)).setCell ⟨w.heap.size + 1 + 1, 0, none⟩ (.bool true)) (w.heap.size + 1) 70 (.slice (some ⟨g', 0, none⟩) m c) ∧ ((w1.setCell ⟨w.heap.size + 1, 0, none⟩ (.slice (some ⟨g', 0, none⟩) m c)).setCell ⟨w.heap.size + 1 + 1, 0, none⟩ (.bool true)).cell? ⟨w.heap.size + 1, 0, none⟩ = some (.slice (some ⟨g', 0, none⟩) m c) ∧ ((w1.setCell ⟨w.heap.size + 1, 0, none⟩ (.slice (some ⟨g', 0, none⟩) m c)).setCell ⟨w.heap.size + 1 + 1, 0, none⟩ (.bool true)).frozen? ⟨w.heap.size + 1, 0, none⟩ = false ∧
    ((w1.setCell ⟨w.heap.size + 1, 0, none⟩ (.slice (some ⟨g', 0, none⟩) m c)).setCell ⟨w.heap.size + 1 + 1, 0, none⟩ (.bool true)).ownsRow n1 61 2 (.slice (some ⟨g', 0, none⟩) m c) m ys ∧ ((w1.setCell ⟨w.heap.size + 1, 0, none⟩ (.slice (some ⟨g', 0, none⟩) m c)).setCell ⟨w.heap.size + 1 + 1, 0, none⟩ (.bool true)).heap[Bx]? = some (.cells #[.int .i64 x1, .int .i64 x2] 61 (0, 0)) ∧ ((w1.setCell ⟨w.heap.size + 1, 0, none⟩ (.slice (some ⟨g', 0, none⟩) m c)).setCell ⟨w.heap.size + 1 + 1, 0, none⟩ (.bool true)).cell? ⟨Bx, 0, none⟩ = some (.int .i64 x1) ∧ ((w1.setCell ⟨w.heap.size + 1, 0, none⟩ (.slice (some ⟨g', 0, none⟩) m c)).setCell ⟨w.heap.size + 1 + 1, 0, none⟩ (.bool true)).cell? ⟨Bx, 1, none⟩ = some (.int .i64 x2) ∧ KeepsOthers W ((w1.setCell ⟨w.heap.size + 1, 0, none⟩ (.slice (some ⟨g', 0, none⟩) m c)).setCell ⟨w.heap.size + 1 + 1, 0, none⟩ (.bool true)) ∧ Below w.heap.size W ((w1.setCell ⟨w.heap.size + 1, 0, none⟩ (.slice (some ⟨g', 0, none⟩) m c)).setCell ⟨w.heap.size + 1 + 1, 0, none⟩ (.bool true)) := by
  obtain ⟨hv1, hv2, hr2, hk2, hs2, hb2⟩ := row_appended hv (by decide) hrow hn hown' hgrow
  have sm1 : ∀ j, j < W.heap.size → v.ownBlock ≠ some j → j ≠ w.heap.size + 1 → (w1.setCell ⟨w.heap.size + 1, 0, none⟩ (.slice (some ⟨g', 0, none⟩) m c)).heap[j]? = W.heap[j]? := fun j hj h1 h2 => row_same hgrow hj h1 h2
  have own1 : ∀ j, j < n1 → v.ownBlock ≠ some j := fun j hj e => by have := own_base hrow e; omega
  have qo1 : Boxed (w1.setCell ⟨w.heap.size + 1, 0, none⟩ (.slice (some ⟨g', 0, none⟩) m c)) (w.heap.size + 1 + 1) 4 (.bool false) := (sm1 _ (by omega) (own1 _ (by omega)) (by omega)).trans ho
  have qo2 : Boxed ((w1.setCell ⟨w.heap.size + 1, 0, none⟩ (.slice (some ⟨g', 0, none⟩) m c)).setCell ⟨w.heap.size + 1 + 1, 0, none⟩ (.bool true)) (w.heap.size + 1 + 1) 4 (.bool true) := Boxed.set (.bool true) qo1
  have qv : Boxed ((w1.setCell ⟨w.heap.size + 1, 0, none⟩ (.slice (some ⟨g', 0, none⟩) m c)).setCell ⟨w.heap.size + 1 + 1, 0, none⟩ (.bool true)) (w.heap.size + 1) 70 (.slice (some ⟨g', 0, none⟩) m c) := Boxed.other hv2 (B' := w.heap.size + 1 + 1) (by omega) (.bool true)
  have qr := hr2.kept (grownBy_setCell' (w1.setCell ⟨w.heap.size + 1, 0, none⟩ (.slice (some ⟨g', 0, none⟩) m c)) (w.heap.size + 1 + 1) (.bool true)) (.inr (qo1.not_row (by decide) hr2).symm)
  have qb : ((w1.setCell ⟨w.heap.size + 1, 0, none⟩ (.slice (some ⟨g', 0, none⟩) m c)).setCell ⟨w.heap.size + 1 + 1, 0, none⟩ (.bool true)).heap[Bx]? = some (.cells #[.int .i64 x1, .int .i64 x2] 61 (0, 0)) := (Below.heap_setCell _ _ _ _ (show Bx ≠ w.heap.size + 1 + 1 by omega)).trans ((sm1 _ (blk_lt hb) hne (by omega)).trans hb)
  exact ⟨hv1, hv1.cell, hv1.frozen, sm1, own1, qo1, qo1.cell, qo1.frozen, qo2, qv, qv.cell, qv.frozen, qr, qb, (blk_cell qb 0).trans rfl, (blk_cell qb 1).trans rfl, hk2.trans (KeepsOthers.setCell _ _ _), (hb2 w.heap.size (by omega) (by omega)).setCell (p := ⟨w.heap.size + 1 + 1, 0, none⟩) (by show w.heap.size ≤ w.heap.size + 1 + 1; omega) _⟩
theorem info61e : (Try.prog.info? 61).map (fun i => (i.zero, i.size, i.bytes)) = some (some (.agg #[.int .i64 0, .int .i64 0]), 2, 16) := by kernel_rfl
def flat2 (l : List (Int × Int)) : List Value := l.flatMap (fun p => [.int .i64 p.1, .int .i64 p.2])
/-- What is told of all, and whether its own stands among it. -/
def stO (i : Int) (st : List (Int × Int) × Bool) (x : Int × Int × Int) : List (Int × Int) × Bool := if i < x.1 ∧ st.2 = false then (st.1 ++ [(0, 0)] ++ [x.2], true) else (st.1 ++ [x.2], st.2)
def offS (i : Int) (l : List (Int × Int × Int)) : List (Int × Int) × Bool := l.foldl (stO i) ([], false)
theorem offS_snoc (i : Int) (l : List (Int × Int × Int)) (x : Int × Int × Int) : offS i (l ++ [x]) = stO i (offS i l) x := by unfold offS; rw [List.foldl_append]; rfl
def offL (i : Int) (l : List (Int × Int × Int)) : List (Int × Int) := if (offS i l).2 = true then (offS i l).1 else (offS i l).1 ++ [(0, 0)]
theorem offS_len (i : Int) (l : List (Int × Int × Int)) : (offS i l).1.length ≤ 2 * l.length := by
  have : ∀ (l : List (Int × Int × Int)) st, (l.foldl (stO i) st).1.length ≤ st.1.length + 2 * l.length := by
    intro l
    induction l with
    | nil => intro st; simp
    | cons x l ih =>
      intro st
      rw [List.foldl_cons]
      refine Nat.le_trans (ih _) ?_
      unfold stO
      split <;> simp <;> omega
  have := this l ([], false)
  simpa [offS] using this
theorem flat2_snoc (l : List (Int × Int)) (p : Int × Int) : flat2 (l ++ [p]) = flat2 l ++ [.int .i64 p.1, .int .i64 p.2] := by unfold flat2; simp
theorem Boxed.inj {W : World} {B : Nat} {t t' : TypeId} {u v : Value} (h : Boxed W B t u) (h' : Boxed W B t' v) : u = v := by
  have := (show W.heap[B]? = _ from h).symm.trans h'
  simp at this
  exact this.1
theorem own_ne_new {W : World} {b n : Nat} {e : TypeId} {size : Nat} {v : Value} {xs : List Value} (h : W.ownsRow b e size v n xs) : v.ownBlock ≠ some W.heap.size := by
  intro e'
  rcases h.2 with ⟨rfl, _⟩ | ⟨g, cap, cur, rfl, _, hgb, _⟩
  · simp [Value.ownBlock] at e'
  · simp [Value.ownBlock] at e'
    have := blk_lt hgb
    omega
set_option maxRecDepth 100000 in
set_option maxHeartbeats 16000000 in
theorem offsets_ok (g bm : Nat) (n f s dl ks ee wd rh sl cp i : Int) (k : Nat) (M : KM) (t : Int) (z w : World) (hI : IsT z w g bm n f s dl ks ee wd rh sl cp i) (hM : KMap w bm k M) (hMo : KOk M) (hk : Ok n f s dl ks ee wd rh sl cp) :
    Calls Try.prog 40 #[.pointer (some ⟨g, 0, none⟩), .int .i64 t] w fun en w' => ∃ v, en = .returned v ∧ w'.ownsRow w.heap.size 61 2 v (offL i (upto n i (2 * (n * s)) (rh + sl) M t n.toNat)).length (flat2 (offL i (upto n i (2 * (n * s)) (rh + sl) M t n.toNat))) ∧ Below w.heap.size w w' := by
  obtain ⟨i0, hi, hz0, hz1, hz2⟩ := info_parts info61e
  have HI := Aside0.mk hI
  have HM := Aside0.mk hM
  have HMo := Aside0.mk hMo
  have HK := Aside0.mk hk
  clear hI hM hMo hk
  refine (callsIn_wide (n := 10)).1 (callsIn_of_wp_marks Try.func40 rfl trivial (wpIn_wide.2 ?_))
  simp only [Try.ntmps40, List.size_toArray, List.length_cons, List.length_nil, Nat.reduceAdd, Nat.reduceSub, Array.replicate_succ, Array.replicate_zero, List.push_toArray, List.append_toArray, List.nil_append, List.cons_append]
  go_wp2_with (first | (go_at_call 53; go_loud (refine (none_ok g bm n f s dl ks ee wd rh sl cp i z _ (IsT.alloc HI.out _)).mono ?_; rintro en w1 ⟨rfl, e1⟩; rw [e1]; clear e1)) | (go_at_call 58; go_loud (refine (all_ok g t _).mono ?_; rintro en w1 ⟨rfl, e1⟩; rw [e1]; clear e1)))
  refine wp_gen (fun W => W.heap.size = w.heap.size + 5 ∧ Below w.heap.size w W ∧ W.heap[w.heap.size]? = some (.cells #[.pointer (some ⟨g, 0, none⟩)] 55 (0, 0)) ∧ Boxed W (w.heap.size + 1) 70 (.slice none 0 0) ∧ Boxed W (w.heap.size + 1 + 1) 4 (.bool false) ∧ W.heap[w.heap.size + 1 + 1 + 1]? = some (.cells #[.pointer (some ⟨g, 0, none⟩)] 55 (0, 0)) ∧ W.heap[w.heap.size + 1 + 1 + 1 + 1]? = some (.cells #[.int .i64 t] 2 (0, 0))) ⟨by simp, below_alloc (below_alloc (below_alloc (below_alloc (below_alloc (Below.refl _ _) _) _) _) _) _, blk_alloc (blk_alloc (blk_alloc (blk_alloc (blk_new _ _) _) _) _) _, Boxed.alloc (Boxed.alloc (Boxed.alloc (by have := Boxed.new (w.alloc (.cells #[.pointer (some ⟨g, 0, none⟩)] 55)) 70 (.slice none 0 0); rwa [World.size_alloc] at this) _) _) _, Boxed.alloc (Boxed.alloc (by have := Boxed.new ((w.alloc (.cells #[.pointer (some ⟨g, 0, none⟩)] 55)).alloc (.cells #[.slice none 0 0] 70)) 4 (.bool false); simpa using this) _) _, blk_alloc (by have := blk_new (((w.alloc (.cells #[.pointer (some ⟨g, 0, none⟩)] 55)).alloc (.cells #[.slice none 0 0] 70)).alloc (.cells #[.bool false] 4)) (.cells #[.pointer (some ⟨g, 0, none⟩)] 55 (0, 0)); simpa using this) _, by have := blk_new ((((w.alloc (.cells #[.pointer (some ⟨g, 0, none⟩)] 55)).alloc (.cells #[.slice none 0 0] 70)).alloc (.cells #[.bool false] 4)).alloc (.cells #[.pointer (some ⟨g, 0, none⟩)] 55)) (.cells #[.int .i64 t] 2 (0, 0)); simpa using this⟩ ?_
  rintro W0 ⟨hsz, hB0, ht0, hn0, ho0, hp0, hp1⟩
  have hI0 := IsT.below HI.out hB0
  have hM0 := KMap.below HM.out hB0
  have hgl := blk_lt HI.out.1
  have hbl := KMap.lt HM.out
  refine (wpIn_wide (n := 10)).1 (wpIn_rangeFunc_ownH rfl (by omega) (gf := 75) (lb := #[.pointer (some ⟨w.heap.size + 1 + 1 + 1, 0, none⟩), .pointer (some ⟨w.heap.size + 1 + 1 + 1 + 1, 0, none⟩)]) rfl trivial (enters_of Try.func75 (by kernel_rfl) rfl)
    (all_stops g bm n f s dl ks ee wd rh sl cp i (w.heap.size + 1 + 1 + 1) (w.heap.size + 1 + 1 + 1 + 1) k M t 9 (by omega) z W0 hI0 hM0 hp0 hp1 HMo.out HK.out) (fun h k => h.trans k) (keepOn_b (by rintro j (rfl | rfl | rfl | rfl) <;> omega)) (Below.refl _ _) (fun _ => rfl)
    (fun pre W => Row W0.heap.size (w.heap.size + 1) 70 61 2 (offS i pre).1.length (flat2 (offS i pre).1) W ∧ Boxed W (w.heap.size + 1 + 1) 4 (.bool (offS i pre).2) ∧ W.heap[w.heap.size]? = some (.cells #[.pointer (some ⟨g, 0, none⟩)] 55 (0, 0)) ∧ Below w.heap.size w W ∧ W0.heap.size ≤ W.heap.size)
    (fun _ _ _ => False)
    (fun s X Y row hs hg hr => ⟨hs.1.grown hg (fun r e => (hr r e).2), hs.2.1.kept hg (fun e => by have := (hr _ e.symm).1; omega), blk_grown hs.2.2.1 hg (fun e => by have := (hr _ e.symm).1; omega), hs.2.2.2.1.grown hg hs.2.2.2.1.size (fun j e => by have := (hr j e).1; omega), Nat.le_trans hs.2.2.2.2 hg.size⟩)
    (fun _ _ _ _ _ hs _ _ => hs.elim)
    ⟨⟨_, hn0, World.ownsRow_nil _ _ _ _⟩, ho0, ht0, hB0, Nat.le_refl _⟩
    (fun x a' W => ∃ Bx, (∃ v, Boxed W (w.heap.size + 1) 70 v ∧ v.ownBlock ≠ some Bx) ∧ w.heap.size + 4 < Bx ∧ W.heap[Bx]? = some (.cells #[.int .i64 x.2.1, .int .i64 x.2.2] 61 (0, 0)) ∧ a' = { tmps := #[.pointer (some ⟨g, 0, none⟩), .int .i64 t, .pointer (some ⟨w.heap.size, 0, none⟩), undef, .slice none 0 0, .pointer (some ⟨w.heap.size + 1, 0, none⟩), .pointer (some ⟨w.heap.size + 1 + 1, 0, none⟩), .int .i64 x.1, .pointer (some ⟨Bx, 0, none⟩), .pointer (some ⟨g, 0, none⟩), .bool false, .pointer (some ⟨g, 0, none⟩), .int .i64 t, .func (.func 75) #[] #[.pointer (some ⟨w.heap.size + 1 + 1 + 1, 0, none⟩), .pointer (some ⟨w.heap.size + 1 + 1 + 1 + 1, 0, none⟩)], .int .i64 x.1, .agg #[.int .i64 x.2.1, .int .i64 x.2.2], undef, undef, undef, undef, undef, undef, undef, undef, undef, undef, undef, undef, undef, undef, undef, undef, undef, undef, undef, undef, undef, undef, undef, undef, undef], defers := [] }) (fun x a' _ X Y row hs hg hr => ?hAx) ?assign ?body ?done ?stop)
  case hAx =>
    obtain ⟨Bx, ⟨v, h0, h01⟩, h1, h2, h3⟩ := hs
    refine ⟨Bx, ⟨v, h0.kept hg (fun e => ?_), h01⟩, h1, blk_grown h2 hg (fun e => ?_), h3⟩
    · obtain ⟨_, o, ho, hc⟩ := hr _ e.symm
      rw [show X.heap[w.heap.size + 1]? = _ from h0] at ho
      cases ho
      cases hc
    obtain ⟨_, o, ho, hc⟩ := hr _ e.symm
    rw [h2] at ho
    cases ho
    cases hc
  case assign =>
    rintro l pre x W K hi hK
    have hT : ∀ j, T4 g bm (w.heap.size + 1 + 1 + 1) (w.heap.size + 1 + 1 + 1 + 1) j → j < W.heap.size := by have := hi.2.2.2.2; rintro j (rfl | rfl | rfl | rfl) <;> omega
    gi_wp2
    exact hK _ _ ((KeepsOthers.alloc _ _).from _) (KeepOn.grown (World.grownBy_alloc W _ none) (fun j hj => ⟨hT j hj, by simp⟩)) ⟨hi.1.grown (World.grownBy_alloc W _ none) (fun r e => by cases e), hi.2.1.alloc _, blk_alloc hi.2.2.1 _, below_alloc hi.2.2.2.1 _, Nat.le_trans hi.2.2.2.2 (by simp)⟩ (by obtain ⟨v, hv, hrow⟩ := hi.1; exact ⟨W.heap.size, ⟨v, hv.alloc _, own_ne_new hrow⟩, by have := hi.2.2.2.2; omega, blk_new _ _, rfl⟩)
  case body =>
    rintro l pre x a' W hl ⟨r, hr⟩ ⟨⟨v, hv, hrow⟩, ho, htt, hB, hsW⟩ ⟨Bx, ⟨v0, hv0, hne0⟩, hBx, hb, rfl⟩ hlt
    obtain rfl : v0 = v := Boxed.inj hv0 hv
    have h5 : w.heap.size + 5 ≤ W0.heap.size := by omega
    clear hv0
    have hT : ∀ j, T4 g bm (w.heap.size + 1 + 1 + 1) (w.heap.size + 1 + 1 + 1 + 1) j → j < W.heap.size ∧ j < W0.heap.size ∧ j ≠ w.heap.size + 1 ∧ j ≠ w.heap.size + 1 + 1 := by rintro j (rfl | rfl | rfl | rfl) <;> omega
    have hln := offS_len i pre
    have x0 : W.cell? ⟨Bx, 0, none⟩ = some (.int .i64 x.2.1) := (blk_cell hb 0).trans rfl
    have x1 : W.cell? ⟨Bx, 1, none⟩ = some (.int .i64 x.2.2) := (blk_cell hb 1).trans rfl
    have t0 : W.cell? ⟨w.heap.size, 0, none⟩ = some (.pointer (some ⟨g, 0, none⟩)) := (blk_cell htt 0).trans rfl
    have g10 : W.cell? ⟨g, 10, none⟩ = some (.int .i64 i) := (blk_cell (IsT.below HI.out hB).1 10).trans rfl
    have hc := hv.cell
    have hf := hv.frozen
    have hoc := ho.cell
    have hof := ho.frozen
    obtain ⟨st, hst⟩ : ∃ st, offS i pre = st := ⟨_, rfl⟩
    rw [hst] at hrow ho hoc hln
    have HST := Aside0.mk hst
    clear hst
    obtain ⟨L, ob⟩ := st
    dsimp only at hrow ho hoc hln
    have HTT := Aside0.mk hT
    clear hsz hT
    by_cases hx : i < x.1
    · have hxb : decide (i < x.1) = true := decide_eq_true hx
      cases ob with
      | false =>
        have HS : Aside0 (offS i (pre ++ [x]) = (L ++ [(0, 0)] ++ [x.2], true)) := ⟨by rw [offS_snoc, HST.out]; unfold stO; rw [if_pos ⟨hx, rfl⟩]⟩
        gi_wp2_with (first | (gi_at_builtin; refine wpListIn_append_own _ rfl _ _ 70 rfl W0.heap.size 61 i0 (.agg #[.int .i64 0, .int .i64 0]) 2 16 Try.underlying70 hi hz0 hz1 hz2 rfl (by decide) _ _ _ rfl (hrow.alloc _) ⟨(W).heap.size, 0, none⟩ 1 1 [.int .i64 0, .int .i64 0] rfl rfl (cells_new _ _ _) (by simp [Value.oneCell']) (by unfold maxLen; omega) (by omega) (by simp; omega) ?_; intro v' w1 hown' hgrow _; obtain ⟨g', cap', rfl⟩ := ownsRow_succ hown'; obtain ⟨hv1, hc1, hf1, sm1, own1, qo1, zc, zf, qo2, qv, yc, yf, qr, qb, y0, y1, qk2, qb2⟩ := first_app hv hrow hsW h5 ho hb hne0 hBx hown' hgrow; have HSM := Aside0.mk sm1; have HOW := Aside0.mk own1; clear hrow hown' hgrow hv sm1 own1 hv1) | (gi_at_builtin; refine wpListIn_append_own _ rfl _ _ 70 rfl W0.heap.size 61 i0 (.agg #[.int .i64 0, .int .i64 0]) 2 16 Try.underlying70 hi hz0 hz1 hz2 rfl (by decide) _ _ _ rfl (qr.alloc _) ⟨w1.heap.size, 0, none⟩ 1 1 [.int .i64 x.2.1, .int .i64 x.2.2] rfl rfl (fun j u hj => by have hh := cells_new ((w1.setCell ⟨w.heap.size + 1, 0, none⟩ (.slice (some ⟨g', 0, none⟩) (L.length + 1) cap')).setCell ⟨w.heap.size + 1 + 1, 0, none⟩ (.bool true)) #[.int .i64 x.2.1, .int .i64 x.2.2] 61 j u hj; rw [show (((w1.setCell ⟨w.heap.size + 1, 0, none⟩ (.slice (some ⟨g', 0, none⟩) (L.length + 1) cap')).setCell ⟨w.heap.size + 1 + 1, 0, none⟩ (.bool true))).heap.size = w1.heap.size by simp] at hh; exact hh) (by simp [Value.oneCell']) (by unfold maxLen; omega) (by omega) (by have := qk2.size; simp at this ⊢; omega) ?_; intro v3 w3 hown3 hgrow3 _; obtain ⟨g3, cap3, rfl⟩ := ownsRow_succ hown3; obtain ⟨hv1, hv3, hr3, hk3, hs3, hb3⟩ := row_appended qv (by decide) qr (by have := qk2.size; simp at this ⊢; omega) hown3 hgrow3; have hc3 := hv1.cell; have hf3 := hv1.frozen))
        have qsz := qk2.size
        have sm2 : ∀ j, j < W0.heap.size → j ≠ w.heap.size + 1 → j ≠ w.heap.size + 1 + 1 → (((w1.setCell ⟨w.heap.size + 1, 0, none⟩ (.slice (some ⟨g', 0, none⟩) (L.length + 1) cap')).setCell ⟨w.heap.size + 1 + 1, 0, none⟩ (.bool true))).heap[j]? = W.heap[j]? := fun j h1 h2 h3 => (Below.heap_setCell _ _ _ j h3).trans (HSM.out j (by omega) (HOW.out j h1) h2)
        have sm3 : ∀ j, j < W0.heap.size → j ≠ w.heap.size + 1 → (w3.setCell ⟨w.heap.size + 1, 0, none⟩ (.slice (some ⟨g3, 0, none⟩) (L.length + 1 + 1) cap3)).heap[j]? = (((w1.setCell ⟨w.heap.size + 1, 0, none⟩ (.slice (some ⟨g', 0, none⟩) (L.length + 1) cap')).setCell ⟨w.heap.size + 1 + 1, 0, none⟩ (.bool true))).heap[j]? := fun j h1 h2 => hs3 j (by omega) (Or.inl h1) h2
        rw [ownPostG]
        rw [HS.out]
        exact ⟨(qk2.trans hk3).from _, fun j hj => (sm3 j (HTT.out j hj).2.1 (HTT.out j hj).2.2.1).trans (sm2 j (HTT.out j hj).2.1 (HTT.out j hj).2.2.1 (HTT.out j hj).2.2.2), ⟨_, hv3, by rw [List.length_append, List.length_append, flat2_snoc, flat2_snoc]; exact hr3⟩, (sm3 _ (by omega) (by omega)).trans qo2, ((sm3 _ (by omega) (by omega)).trans (sm2 _ (by omega) (by omega) (by omega))).trans htt, hB.trans (qb2.trans (hb3 _ (by omega) (by omega))), Nat.le_trans hsW (Nat.le_trans qsz hk3.size)⟩
      | true =>
        have HS : Aside0 (offS i (pre ++ [x]) = (L ++ [x.2], true)) := ⟨by rw [offS_snoc, HST.out]; unfold stO; rw [if_neg (fun h => by cases h.2)]⟩
        gi_wp2_with (first | (gi_at_builtin; refine wpListIn_append_own _ rfl _ _ 70 rfl W0.heap.size 61 i0 (.agg #[.int .i64 0, .int .i64 0]) 2 16 Try.underlying70 hi hz0 hz1 hz2 rfl (by decide) _ _ _ rfl (hrow.alloc _) ⟨(W).heap.size, 0, none⟩ 1 1 [.int .i64 x.2.1, .int .i64 x.2.2] rfl rfl (cells_new _ _ _) (by simp [Value.oneCell']) (by unfold maxLen; omega) (by omega) (by simp; omega) ?_; intro v' w1 hown' hgrow _; obtain ⟨g', cap', rfl⟩ := ownsRow_succ hown'; obtain ⟨hv1, hv2, hr2, hk2, hs2, hb2⟩ := row_appended hv (by decide) hrow hsW hown' hgrow; have hc1 := hv1.cell; have hf1 := hv1.frozen))
        have sm : ∀ j, j < W0.heap.size → j ≠ w.heap.size + 1 → (w1.setCell ⟨w.heap.size + 1, 0, none⟩ (.slice (some ⟨g', 0, none⟩) (L.length + 1) cap')).heap[j]? = W.heap[j]? := fun j hj hne => hs2 j (by omega) (Or.inl hj) hne
        rw [ownPostG]
        rw [HS.out]
        exact ⟨hk2.from _, fun j hj => sm j (HTT.out j hj).2.1 (HTT.out j hj).2.2.1, ⟨_, hv2, by rw [List.length_append, flat2_snoc]; exact hr2⟩, (sm _ (by omega) (by omega)).trans ho, (sm _ (by omega) (by omega)).trans htt, hB.trans (hb2 _ (by omega) (by omega)), Nat.le_trans hsW hk2.size⟩
    · have hxb : decide (i < x.1) = false := decide_eq_false hx
      have HS : Aside0 (offS i (pre ++ [x]) = (L ++ [x.2], ob)) := ⟨by rw [offS_snoc, HST.out]; unfold stO; rw [if_neg (fun h => hx h.1)]⟩
      gi_wp2_with (first | (gi_at_builtin; refine wpListIn_append_own _ rfl _ _ 70 rfl W0.heap.size 61 i0 (.agg #[.int .i64 0, .int .i64 0]) 2 16 Try.underlying70 hi hz0 hz1 hz2 rfl (by decide) _ _ _ rfl (hrow.alloc _) ⟨(W).heap.size, 0, none⟩ 1 1 [.int .i64 x.2.1, .int .i64 x.2.2] rfl rfl (cells_new _ _ _) (by simp [Value.oneCell']) (by unfold maxLen; omega) (by omega) (by simp; omega) ?_; intro v' w1 hown' hgrow _; obtain ⟨g', cap', rfl⟩ := ownsRow_succ hown'; obtain ⟨hv1, hv2, hr2, hk2, hs2, hb2⟩ := row_appended hv (by decide) hrow hsW hown' hgrow; have hc1 := hv1.cell; have hf1 := hv1.frozen))
      have sm : ∀ j, j < W0.heap.size → j ≠ w.heap.size + 1 → (w1.setCell ⟨w.heap.size + 1, 0, none⟩ (.slice (some ⟨g', 0, none⟩) (L.length + 1) cap')).heap[j]? = W.heap[j]? := fun j hj hne => hs2 j (by omega) (Or.inl hj) hne
      rw [ownPostG]
      rw [HS.out]
      exact ⟨hk2.from _, fun j hj => sm j (HTT.out j hj).2.1 (HTT.out j hj).2.2.1, ⟨_, hv2, by rw [List.length_append, flat2_snoc]; exact hr2⟩, (sm _ (by omega) (by omega)).trans ho, (sm _ (by omega) (by omega)).trans htt, hB.trans (hb2 _ (by omega) (by omega)), Nat.le_trans hsW hk2.size⟩
  case done =>
    rintro D ys W hD rfl ⟨⟨v, hv, hrow⟩, ho, htt, hB, hsW⟩ hK
    have hc := hv.cell
    have hf := hv.frozen
    have hoc := ho.cell
    have h5 : w.heap.size + 5 ≤ W0.heap.size := by omega
    have hln := offS_len i (upto n i (2 * (n * s)) (rh + sl) M t n.toNat)
    have hul := upto_len n i (2 * (n * s)) (rh + sl) M t n.toNat
    have hn8 : n.toNat ≤ 8 := by have := HK.out; unfold Ok at this; omega
    obtain ⟨l, hl⟩ : ∃ l, upto n i (2 * (n * s)) (rh + sl) M t n.toNat = l := ⟨_, rfl⟩
    rw [hl] at hrow hoc hln hul ho
    have HL := Aside0.mk hl
    obtain ⟨st, hst⟩ : ∃ st, offS i l = st := ⟨_, rfl⟩
    rw [hst] at hrow hoc hln ho
    have HST := Aside0.mk hst
    clear hst hsz hl
    obtain ⟨L, ob⟩ := st
    dsimp only at hrow hoc hln ho
    cases ob with
    | true =>
      have HO : Aside0 (offL i l = L) := ⟨by unfold offL; rw [HST.out]; rfl⟩
      go_wp2
      refine ⟨by simp, .inl ⟨_, _, rfl, run_takeDeferred hK, ?_⟩⟩
      rw [HL.out, HO.out]
      exact ⟨_, results_tmp rfl _ _ _, _, rfl, Go.Joins.ownsRow_le (ownsRow_putObj hrow _ hK rfl) (by omega), hB.trans (belowK_b (w := w) (Nat.le_refl _) W D _ _ (by omega) hK rfl rfl)⟩
    | false =>
      have HO : Aside0 (offL i l = L ++ [(0, 0)]) := ⟨by unfold offL; rw [HST.out]; rfl⟩
      go_wp2_with (first | (at_builtin; refine wpList_append_own _ rfl _ _ 70 rfl W0.heap.size 61 i0 (.agg #[.int .i64 0, .int .i64 0]) 2 16 Try.underlying70 hi hz0 hz1 hz2 rfl (by decide) _ _ _ rfl (hrow.alloc _) ⟨(W).heap.size, 0, none⟩ 1 1 [.int .i64 0, .int .i64 0] rfl rfl (cells_new _ _ _) (by simp [Value.oneCell']) (by unfold maxLen; omega) (by omega) (by simp; omega) ?_; intro v' w1 hown' hgrow _; obtain ⟨g', cap', rfl⟩ := ownsRow_succ hown'; obtain ⟨hv1, hv2, hr2, hk2, hs2, hb2⟩ := row_appended hv (by decide) hrow hsW hown' hgrow; have hc1 := hv1.cell; have hf1 := hv1.frozen))
      have hKD := hk2.same D _ hK rfl
      refine ⟨by simp, .inl ⟨_, _, rfl, run_takeDeferred hKD, ?_⟩⟩
      rw [HL.out, HO.out, List.length_append, flat2_snoc]
      exact ⟨_, results_tmp rfl _ _ _, _, rfl, Go.Joins.ownsRow_le (ownsRow_putObj hr2 _ hKD rfl) (by omega), (hB.trans (hb2 _ (by omega) (by omega))).trans (belowK_b (w := w) (Nat.le_refl _) _ D _ _ (by omega) hKD rfl rfl)⟩
  case stop =>
    rintro D c pre W _ _ h _
    exact h.elim
end Go.Proofs.Ytfaikkhnlioajaa.BrD
end
