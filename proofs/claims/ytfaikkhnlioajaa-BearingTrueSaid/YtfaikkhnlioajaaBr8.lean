/- How many are near. -/
import Derived.Test.YtfaikkhnlioajaaProg
import Derived.Below
import Derived.Deep.Draws
import Derived.Deep.AppendLies
import Derived.Maps.AppendAt
import Derived.OwnWalk
import Derived.Laws.BytesArg
import Derived.Laws.MakeOwn
import Derived.Laws.OwnMore
import Derived.Deep.OwnRows
import Derived.Tactics
import Derived.Lib.ConvBytes
import Derived.Laws.Slices
import Derived.WalkKit
import Derived.KernelRfl
import Derived.RowKit3
import Derived.Deep.LoopGhost
import Derived.Deep.QuietTactic
import Derived.BigQuiet
import Derived.WideLaws
import Derived.Deep.DeepCutAuto
import Derived.Deep.CutBlock
import Derived.Deep.RegionHeld3
import Derived.Laws.Rows
import Derived.Lib.AppendStr
import Derived.ArgAppend
import Derived.Laws.IdiomCopy
import Derived.OrdersHeld
import Derived.Laws.BitsLemmas
import Derived.RowKit
import Derived.RegionTactic
import Derived.ChangeAlike
import Derived.Outline
import Derived.LoopTactic
import Derived.WalkSpells
import Derived.WalkLawsBesides
import Derived.Lib.Hide
import Derived.StillTailTactics
import Derived.Deep.RegionWith
import Derived.Deep.RegionLaw
import Derived.Deep.DeepFit
import Derived.Deep.DeepMust
import Derived.Test.YtfaikkhnlioajaaWWords
import Derived.Test.YtfaikkhnlioajaaWLast
import Derived.Test.YtfaikkhnlioajaaWTab
import Derived.Test.YtfaikkhnlioajaaWFour
import Derived.Test.YtfaikkhnlioajaaWQPut
import Derived.Test.YtfaikkhnlioajaaWApart
import Derived.Test.YtfaikkhnlioajaaWArr
import Derived.Test.YtfaikkhnlioajaaWZeros
import Derived.Test.YtfaikkhnlioajaaWFoot
import Derived.Test.YtfaikkhnlioajaaWKept
import Derived.Test.YtfaikkhnlioajaaWShare
import Derived.Test.YtfaikkhnlioajaaWN
import Derived.Test.YtfaikkhnlioajaaWFootNe
import Derived.Test.YtfaikkhnlioajaaWAt
import Derived.Test.YtfaikkhnlioajaaWEqStruct
import Derived.Test.YtfaikkhnlioajaaWRepsOne
import Derived.Test.YtfaikkhnlioajaaWInv
import Derived.Test.YtfaikkhnlioajaaWInvWords
import Derived.Test.YtfaikkhnlioajaaWGuard
import Derived.Test.YtfaikkhnlioajaaWNEv
import Derived.Test.YtfaikkhnlioajaaWMore
import Derived.Maps.AppendAt
import Derived.Test.YtfaikkhnlioajaaBr7
namespace Go.Proofs.Ytfaikkhnlioajaa.Br8
open Go.RowKit Go.Proofs.YtfaikkhnlioajaaW.PrintWords Go.Proofs.YtfaikkhnlioajaaW.PrintLast Go.Proofs.YtfaikkhnlioajaaW.PrintMore 
attribute [local go_sem] max2_int min2_int max_two min_two max_three min_three max_four min_four
set_option linter.unusedVariables false
set_option linter.unusedSimpArgs false
open Go.Proofs.Ytfaikkhnlioajaa.QBase Go.Proofs.Ytfaikkhnlioajaa.Sch Go.Proofs.Ytfaikkhnlioajaa.Plc Go.Proofs.Ytfaikkhnlioajaa.Gd1 Go.Proofs.Ytfaikkhnlioajaa.Gd2 Go.Proofs.Ytfaikkhnlioajaa.Gd3 Go.Proofs.Ytfaikkhnlioajaa.Gd4 Go.Proofs.Ytfaikkhnlioajaa.BrP Go.Proofs.Ytfaikkhnlioajaa.Br1 Go.Proofs.Ytfaikkhnlioajaa.Br2 Go.Proofs.Ytfaikkhnlioajaa.Br3 Go.Proofs.Ytfaikkhnlioajaa.Br4 Go.Proofs.Ytfaikkhnlioajaa.Br5 Go.Proofs.Ytfaikkhnlioajaa.Br6 Go.Proofs.Ytfaikkhnlioajaa.Br7 Go.Maps
attribute [local go_sem] cellS1 frozenS1 cellS2 frozenS2 cellS3 frozenS3 cellS4 frozenS4 cellS5 frozenS5 cellS6 frozenS6
open Go.Shelf
attribute [local go_sem] Oper.semAt_some

def insB (e : Int) (x : Int × Int × Int) : Bool := ival_Inside.f x.2.1 x.2.2 e == some true
def nearL (e : Int) (l : List (Int × Int × Int)) : Int := 1 + (l.countP (insB e) : Nat)
theorem nearL_snoc (e : Int) (l : List (Int × Int × Int)) (x : Int × Int × Int) : nearL e (l ++ [x]) = if insB e x = true then nearL e l + 1 else nearL e l := by
  unfold nearL
  rw [List.countP_append, List.countP_singleton]
  split <;> simp <;> omega
theorem nearL_bd (e : Int) (l : List (Int × Int × Int)) : 1 ≤ nearL e l ∧ nearL e l ≤ 1 + (l.length : Nat) := by
  unfold nearL
  have := List.countP_le_length (p := insB e) (l := l)
  omega
set_option maxRecDepth 100000 in
set_option maxHeartbeats 8000000 in
theorem near_ok (g bm : Nat) (n f s dl ks ee wd rh sl cp i : Int) (k : Nat) (M : KM) (t : Int) (z w : World) (hI : IsT z w g bm n f s dl ks ee wd rh sl cp i) (hM : KMap w bm k M) (hMo : KOk M) (hk : Ok n f s dl ks ee wd rh sl cp) :
    Calls Try.prog 30 #[.pointer (some ⟨g, 0, none⟩), .int .i64 t] w fun en w' => en = .returned (.int .i64 (nearL ee (upto n i (2 * (n * s)) (rh + sl) M t n.toNat))) ∧ Below w.heap.size w w' := by
  have hee : 1 ≤ ee ∧ ee ≤ 40000 := by unfold Ok at hk; omega
  obtain ⟨e0, e1⟩ := hee
  have HI := Aside0.mk hI
  have HM := Aside0.mk hM
  have HMo := Aside0.mk hMo
  have HK := Aside0.mk hk
  clear hI hM hMo hk
  refine (callsIn_wide (n := 10)).1 (callsIn_of_wp_marks Try.func30 rfl trivial (wpIn_wide.2 ?_))
  simp only [Try.ntmps30, List.size_toArray, List.length_cons, List.length_nil, Nat.reduceAdd, Nat.reduceSub, Array.replicate_succ, Array.replicate_zero, List.push_toArray, List.append_toArray, List.nil_append, List.cons_append]
  go_wp2_with (first | (go_at_call 53; go_loud (refine (none_ok g bm n f s dl ks ee wd rh sl cp i z _ (IsT.alloc HI.out _)).mono ?_; rintro en w1 ⟨rfl, e1⟩; rw [e1]; clear e1)) | (go_at_call 58; go_loud (refine (all_ok g t _).mono ?_; rintro en w1 ⟨rfl, e1⟩; rw [e1]; clear e1)))
  refine wp_gen (fun W => W.heap.size = w.heap.size + 4 ∧ Below w.heap.size w W ∧ W.heap[w.heap.size]? = some (.cells #[.pointer (some ⟨g, 0, none⟩)] 55 (0, 0)) ∧ Boxed W (w.heap.size + 1) 3 (.int .i64 1) ∧ W.heap[w.heap.size + 1 + 1]? = some (.cells #[.pointer (some ⟨g, 0, none⟩)] 55 (0, 0)) ∧ W.heap[w.heap.size + 1 + 1 + 1]? = some (.cells #[.int .i64 t] 2 (0, 0))) ⟨by simp, below_alloc (below_alloc (below_alloc (below_alloc (Below.refl _ _) _) _) _) _, blk_alloc (blk_alloc (blk_alloc (blk_new _ _) _) _) _, Boxed.alloc (Boxed.alloc (by have := Boxed.new (w.alloc (.cells #[.pointer (some ⟨g, 0, none⟩)] 55)) 3 (.int .i64 1); rwa [World.size_alloc] at this) _) _, blk_alloc (by have := blk_new ((w.alloc (.cells #[.pointer (some ⟨g, 0, none⟩)] 55)).alloc (.cells #[.int .i64 1] 3)) (.cells #[.pointer (some ⟨g, 0, none⟩)] 55 (0, 0)); simpa using this) _, by have := blk_new (((w.alloc (.cells #[.pointer (some ⟨g, 0, none⟩)] 55)).alloc (.cells #[.int .i64 1] 3)).alloc (.cells #[.pointer (some ⟨g, 0, none⟩)] 55)) (.cells #[.int .i64 t] 2 (0, 0)); simpa using this⟩ ?_
  rintro W0 ⟨hsz, hB0, ht0, hn0, hp0, hp1⟩
  have hI0 := IsT.below HI.out hB0
  have hM0 := KMap.below HM.out hB0
  have hgl := blk_lt HI.out.1
  have hbl := KMap.lt HM.out
  have HIN := Aside0.mk (fun (x : Int × Int × Int) => inside_same x.2.1 x.2.2 ee (by omega) (by omega))
  refine (wpIn_wide (n := 10)).1 (wpIn_rangeFunc_ownH rfl (by omega) (gf := 75) (lb := #[.pointer (some ⟨w.heap.size + 1 + 1, 0, none⟩), .pointer (some ⟨w.heap.size + 1 + 1 + 1, 0, none⟩)]) rfl trivial (enters_of Try.func75 (by kernel_rfl) rfl)
    (all_stops g bm n f s dl ks ee wd rh sl cp i (w.heap.size + 1 + 1) (w.heap.size + 1 + 1 + 1) k M t 9 (by omega) z W0 hI0 hM0 hp0 hp1 HMo.out HK.out) (fun h k => h.trans k) (keepOn_b (by rintro j (rfl | rfl | rfl | rfl) <;> omega)) (Below.refl _ _) (fun _ => rfl)
    (fun pre W => Boxed W (w.heap.size + 1) 3 (.int .i64 (nearL ee pre)) ∧ W.heap[w.heap.size]? = some (.cells #[.pointer (some ⟨g, 0, none⟩)] 55 (0, 0)) ∧ Below w.heap.size w W ∧ W0.heap.size ≤ W.heap.size)
    (fun _ _ _ => False)
    (fun s X Y row hs hg hr => ⟨hs.1.kept hg (fun e => by have := (hr _ e.symm).1; omega), blk_grown hs.2.1 hg (fun e => by have := (hr _ e.symm).1; omega), hs.2.2.1.grown hg hs.2.2.1.size (fun j e => by have := (hr j e).1; omega), Nat.le_trans hs.2.2.2 hg.size⟩)
    (fun _ _ _ _ _ hs _ _ => hs.elim)
    ⟨hn0, ht0, hB0, Nat.le_refl _⟩
    (fun x a' W => ∃ Bx, w.heap.size + 3 < Bx ∧ W.heap[Bx]? = some (.cells #[.int .i64 x.2.1, .int .i64 x.2.2] 61 (0, 0)) ∧ a' = { tmps := #[.pointer (some ⟨g, 0, none⟩), .int .i64 t, .pointer (some ⟨w.heap.size, 0, none⟩), undef, .int .i64 0, .pointer (some ⟨w.heap.size + 1, 0, none⟩), undef, .pointer (some ⟨Bx, 0, none⟩), .pointer (some ⟨g, 0, none⟩), .bool false, .pointer (some ⟨g, 0, none⟩), .int .i64 t, .func (.func 75) #[] #[.pointer (some ⟨w.heap.size + 1 + 1, 0, none⟩), .pointer (some ⟨w.heap.size + 1 + 1 + 1, 0, none⟩)], .int .i64 x.1, .agg #[.int .i64 x.2.1, .int .i64 x.2.2], undef, undef, undef, undef, undef, undef, undef, undef, undef, undef], defers := [] })
    (fun x a' _ X Y row hs hg hr => ?hAx) ?assign ?body ?done ?stop)
  case hAx =>
    obtain ⟨Bx, h1, h2, h3⟩ := hs
    refine ⟨Bx, h1, blk_grown h2 hg (fun e => ?_), h3⟩
    obtain ⟨_, o, ho, hc⟩ := hr _ e.symm
    rw [h2] at ho
    cases ho
    cases hc
  case assign =>
    rintro l pre x W K hi hK
    have hT : ∀ j, T4 g bm (w.heap.size + 1 + 1) (w.heap.size + 1 + 1 + 1) j → j < W.heap.size := by have := hi.2.2.2; rintro j (rfl | rfl | rfl | rfl) <;> omega
    gi_wp2
    exact hK _ _ ((KeepsOthers.alloc _ _).from _) (KeepOn.grown (World.grownBy_alloc W _ none) (fun j hj => ⟨hT j hj, by simp⟩)) ⟨hi.1.alloc _, blk_alloc hi.2.1 _, below_alloc hi.2.2.1 _, Nat.le_trans hi.2.2.2 (by simp)⟩ ⟨W.heap.size, by have := hi.2.2.2; omega, blk_new _ _, rfl⟩
  case body =>
    rintro l pre x a' W hl ⟨r, hr⟩ ⟨h1, h2, h3, h4⟩ ⟨Bx, hBx, hb, rfl⟩ hlt
    have hT : ∀ j, T4 g bm (w.heap.size + 1 + 1) (w.heap.size + 1 + 1 + 1) j → j < W.heap.size ∧ j ≠ w.heap.size + 1 := by rintro j (rfl | rfl | rfl | rfl) <;> omega
    have x0 : W.cell? ⟨Bx, 0, none⟩ = some (.int .i64 x.2.1) := (blk_cell hb 0).trans rfl
    have x1 : W.cell? ⟨Bx, 1, none⟩ = some (.int .i64 x.2.2) := (blk_cell hb 1).trans rfl
    have t0 : W.cell? ⟨w.heap.size, 0, none⟩ = some (.pointer (some ⟨g, 0, none⟩)) := (blk_cell h2 0).trans rfl
    have g5 : W.cell? ⟨g, 5, none⟩ = some (.int .i64 ee) := (blk_cell (IsT.below HI.out h3).1 5).trans rfl
    obtain ⟨b, hin, _⟩ := HIN.out x
    have HINS := Aside0.mk (show insB ee x = b by unfold insB; rw [hin]; cases b <;> rfl)
    have HIN2 := Aside0.mk hin
    have hmx : Try.prog.follows .mixedOrders = true := by kernel_rfl
    have hnb := nearL_bd ee pre
    have H1 := Aside0.mk h1
    have H2 := Aside0.mk h2
    have H3 := Aside0.mk h3
    have HB := Aside0.mk hb
    have HTT := Aside0.mk hT
    clear hin h1 h2 h3 hb hT
    gi_wp2
    gi_region_with_o (refine ⟨trivial, ?_⟩; gi_at_call 29; refine (CallsIn.inRound l (callsIn_wide.2 (ival_Inside.calls _ _ _ b _ HIN2.out))).mono ?_; rintro en w5 ⟨rfl, hb5⟩; have n5 := Boxed.kept (show Boxed W.drew _ _ _ from H1.out) (grown_of_below none hb5) (by simp); have c5 := n5.cell; have f5 := n5.frozen; have HB5 := Aside0.mk hb5; have N5 := Aside0.mk n5; clear hb5 n5)
    all_goals gi_wp2
    all_goals
      have hb : Below W.heap.size W w5 := ⟨HB5.out.os, HB5.out.tape, HB5.out.output, HB5.out.size, HB5.out.block⟩
      have hkf := KeepsFrom.of_grownBy (B := W0.heap.size) (grown_of_below none hb) (by simp)
      have hko : KeepOn (T4 g bm (w.heap.size + 1 + 1) (w.heap.size + 1 + 1 + 1)) W w5 := KeepOn.grown (grown_of_below none hb) (fun j hj => ⟨(HTT.out j hj).1, by simp⟩)
      have hs5 := hb.size
      rename_i hbt
      have hin := HINS.out
      rw [hbt] at hin
      first
        | exact ⟨hkf.trans ((KeepsOthers.setCell _ _ _).from _), hko.trans (fun j hj => Below.heap_setCell _ _ _ j (HTT.out j hj).2), by rw [nearL_snoc, hin, if_pos rfl]; exact N5.out.set _, (Below.heap_setCell _ _ _ _ (by simp)).trans (blk_below H2.out hb), below_set (below_step H3.out hb) (by simp), by simp; omega⟩
        | exact ⟨hkf, hko, by rw [nearL_snoc, hin, if_neg (by decide)]; exact N5.out, blk_below H2.out hb, below_step H3.out hb, by omega⟩
  case done =>
    rintro D ys W hD rfl ⟨h1, h2, h3, h4⟩ hK
    have hc := h1.cell
    go_wp2
    refine ⟨by simp, .inl ⟨_, _, rfl, run_takeDeferred hK, ?_⟩⟩
    exact ⟨_, results_tmp rfl _ _ _, rfl, h3.trans (belowK_b (w := w) (Nat.le_refl _) W D _ _ (by omega) hK rfl rfl)⟩
  case stop =>
    rintro D c pre W _ _ h _
    exact h.elim
end Go.Proofs.Ytfaikkhnlioajaa.Br8
