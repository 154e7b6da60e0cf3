/- What is forgotten of rounds that are long over. -/
import Derived.Test.YtfaikkhnlioajaaProg
import Derived.Below
import Derived.Deep.Draws
import Derived.Deep.AppendLies
import Derived.Maps.AppendAt
import Derived.OwnWalk
import Derived.Laws.BytesArg
import Derived.Laws.MakeOwn
import Derived.Laws.OwnMore
import Derived.Deep.OwnRows
import Derived.Tactics
import Derived.Lib.ConvBytes
import Derived.Laws.Slices
import Derived.WalkKit
import Derived.KernelRfl
import Derived.RowKit3
import Derived.Deep.LoopGhost
import Derived.Deep.QuietTactic
import Derived.BigQuiet
import Derived.WideLaws
import Derived.Deep.DeepCutAuto
import Derived.Deep.CutBlock
import Derived.Deep.RegionHeld3
import Derived.Laws.Rows
import Derived.Lib.AppendStr
import Derived.ArgAppend
import Derived.Laws.IdiomCopy
import Derived.OrdersHeld
import Derived.Laws.BitsLemmas
import Derived.RowKit
import Derived.RegionTactic
import Derived.ChangeAlike
import Derived.Outline
import Derived.LoopTactic
import Derived.WalkSpells
import Derived.WalkLawsBesides
import Derived.Lib.Hide
import Derived.StillTailTactics
import Derived.Deep.RegionWith
import Derived.Deep.RegionLaw
import Derived.Deep.DeepFit
import Derived.Deep.DeepMust
import Derived.Test.YtfaikkhnlioajaaWWords
import Derived.Test.YtfaikkhnlioajaaWLast
import Derived.Test.YtfaikkhnlioajaaWTab
import Derived.Test.YtfaikkhnlioajaaWFour
import Derived.Test.YtfaikkhnlioajaaWQPut
import Derived.Test.YtfaikkhnlioajaaWApart
import Derived.Test.YtfaikkhnlioajaaWArr
import Derived.Test.YtfaikkhnlioajaaWZeros
import Derived.Test.YtfaikkhnlioajaaWFoot
import Derived.Test.YtfaikkhnlioajaaWKept
import Derived.Test.YtfaikkhnlioajaaWShare
import Derived.Test.YtfaikkhnlioajaaWN
import Derived.Test.YtfaikkhnlioajaaWFootNe
import Derived.Test.YtfaikkhnlioajaaWAt
import Derived.Test.YtfaikkhnlioajaaWEqStruct
import Derived.Test.YtfaikkhnlioajaaWRepsOne
import Derived.Test.YtfaikkhnlioajaaWInv
import Derived.Test.YtfaikkhnlioajaaWInvWords
import Derived.Test.YtfaikkhnlioajaaWGuard
import Derived.Test.YtfaikkhnlioajaaWNEv
import Derived.Test.YtfaikkhnlioajaaWMore
import Derived.Test.YtfaikkhnlioajaaGd1
import Derived.OpenShut
import Derived.Maps.RangeWalk
import Derived.Maps.OwnOps
import Derived.Maps.OwnSet
import Derived.Lib.SmallJoins
namespace Go.Proofs.Ytfaikkhnlioajaa.Gd3
open Go.RowKit Go.Proofs.YtfaikkhnlioajaaW.PrintWords Go.Proofs.YtfaikkhnlioajaaW.PrintLast Go.Proofs.YtfaikkhnlioajaaW.PrintMore 
attribute [local go_sem] max2_int min2_int max_two min_two max_three min_three max_four min_four
set_option linter.unusedVariables false
set_option linter.unusedSimpArgs false
open Go.Proofs.Ytfaikkhnlioajaa.QBase Go.Proofs.Ytfaikkhnlioajaa.Sch Go.Proofs.Ytfaikkhnlioajaa.Plc Go.Proofs.Ytfaikkhnlioajaa.Gd1 Go.Maps
theorem law3 : Keyed Try.prog 3 := int_keyed Try.underlying3
theorem zeroE (w : World) : (zeroValue 3).run Try.prog w = .ok (.int .i64 0) w := by kernel_rfl
/-- A map of numbers to numbers that lies in memory: what it says of each number. -/
def MapIs (w : World) (bm k : Nat) (M : Int → Int) : Prop := ∃ D : DataW Unit, w.ownsMap Try.prog 3 (plainElem Try.prog 3) bm k D ∧ ∀ r : Int, D.atKey (.int .i64 r) (.lit (.int .i64 0)) = .lit (.int .i64 (M r))
theorem MapIs.made {w : World} {bm : Nat} (h : w.heap[bm]? = some (.map #[] 0)) : MapIs w bm 0 (fun _ => 0) := ⟨.map [], Go.Joins.ownsMap_empty h, fun _ => rfl⟩
theorem MapIs.kept {w w' : World} {bm k : Nat} {M : Int → Int} {row : Option Nat} (h : MapIs w bm k M) (hg : w.grownBy w' row) (hne : some bm ≠ row) : MapIs w' bm k M := let ⟨D, h1, h2⟩ := h; ⟨D, h1.kept hg hne, h2⟩
theorem MapIs.drewN {w : World} {bm k : Nat} {M : Int → Int} (h : MapIs w bm k M) (m : Nat) : MapIs (w.drewN m) bm k M := h
theorem MapIs.alloc {w : World} {bm k : Nat} {M : Int → Int} (h : MapIs w bm k M) (o : Obj) : MapIs (w.alloc o) bm k M := h.kept (World.grownBy_alloc w o none) (by simp)
theorem MapIs.lt {w : World} {bm k : Nat} {M : Int → Int} (h : MapIs w bm k M) : bm < w.heap.size := let ⟨_, h1, _⟩ := h; h1.lt
theorem MapIs.ne {w : World} {bm k g : Nat} {M : Int → Int} {cs : Array Value} {t : TypeId} {fr : Nat × Nat} (h : MapIs w bm k M) (hg : w.heap[g]? = some (.cells cs t fr)) : bm ≠ g := by
  rintro rfl
  obtain ⟨D, ⟨es, clock, hb, _⟩, _⟩ := h
  rw [hb] at hg; cases hg
theorem MapIs.look {w : World} {bm k : Nat} {M : Int → Int} (h : MapIs w bm k M) (r : Int) (hr : (Lit.int .i64 r).wf = true) : (Instr.lookup 90 (.map (some bm)) (.int .i64 r) false).run Try.prog w = .ok (.int .i64 (M r)) w := by
  obtain ⟨D, h1, h2⟩ := h
  obtain ⟨c, hrun, hat, _⟩ := h1.lookup_int law3 Try.underlying90 Try.underlying3 (zeroE _) (keyOf_int_mk Try.underlying3 hr)
  rw [h2 r] at hat
  cases hat
  exact hrun
theorem grown_of_keep {z w w' : World} {g : Nat} (h : Below z.heap.size z w) (h' : Below z.heap.size z w') (k : KeepBut w w' g none) : w.grownBy w' (some g) :=
  ⟨h'.os.trans h.os.symm, h'.tape.trans h.tape.symm, h'.output.trans h.output.symm, k.1, fun i hi hs => k.2 i hi (fun e => hs (by rw [e])) (by simp)⟩
theorem IsG.kept {z w w' : World} {g bm : Nat} {n f s dl ks ee wd rh sl cp i la le : Int} (h : IsG z w g bm n f s dl ks ee wd rh sl cp i la le) (hg : w.grownBy w' (some bm)) (hne : bm ≠ g) : IsG z w' g bm n f s dl ks ee wd rh sl cp i la le := ⟨(hg.block g (blk_lt h.1) (by simpa using fun e => hne e.symm)).trans h.1, h.2⟩
theorem below_grown {z w w' : World} {bm : Nat} (h : Below z.heap.size z w) (hg : w.grownBy w' (some bm)) (hb : z.heap.size ≤ bm) : Below z.heap.size z w' := h.grown hg h.size (fun j e => by cases e; exact hb)
set_option maxRecDepth 100000 in
set_option maxHeartbeats 4000000 in
theorem clean_ok (g bm k : Nat) (n f s dl ks ee wd rh sl cp i la le rd : Int) (M : Int → Int) (z w : World) (hI : IsG z w g bm n f s dl ks ee wd rh sl cp i la le) (hM : MapIs w bm k M) (hM0 : ∀ r, 0 ≤ M r) (r0 : 0 ≤ rd) (r1 : rd ≤ 1048575) :
    Calls Try.prog 50 #[.pointer (some ⟨g, 0, none⟩), .int .i64 rd] w fun en w' => en = .returned (.tuple #[]) ∧ MapIs w' bm k (fun r => if rd - 64 ≤ r then M r else 0) ∧ w.grownBy w' (some bm) := by
  have c13 : w.cell? ⟨g, 13, none⟩ = some (.map (some bm)) := (blk_cell hI.1 13).trans rfl
  have hne := hM.ne hI.1
  have HI := Aside0.mk hI
  obtain ⟨D, hown, hat⟩ := hM
  have HAT := Aside0.mk hat
  have HM0 := Aside0.mk hM0
  clear hI hat hM0
  go_enter Try.func50, Try.ntmps50
  go_wp2_with (first
    | (at_range; refine wpList_range_own _ rfl _ 90 rfl 3 3 law3 Try.underlying90 _ bm k _ rfl hown ?_; intro w0 hrg0 hg0 hs0))
  go_frame
  go_loopw [4] (fun _ wr => ∃ (left : Lit → Bool) (cnt : Nat) (D : DataW Unit), wr.ranges Try.prog 3 (plainElem Try.prog 3) bm w.heap.size k D left cnt ∧ w.grownBy wr (some bm) ∧ Aside0 (∀ r : Int, D.atKey (.int .i64 r) (.lit (.int .i64 0)) = .lit (.int .i64 (if left (.int .i64 r) = true ∨ rd - 64 ≤ r then M r else 0))))
    (fun _ wr => wr.rangeLeft bm w.heap.size)
  case atStart =>
    refine ⟨_, _, D, hrg0, hg0.but _, ⟨fun r => ?_⟩⟩
    rw [HAT.out r]
    by_cases h : Maps.has D (.int .i64 r) = true ∨ rd - 64 ≤ r
    · rw [if_pos h]
    · rw [if_neg h]
      have h0 : Maps.has D (.int .i64 r) = false := by cases hh : Maps.has D (.int .i64 r) with | true => exact absurd (Or.inl hh) h | false => rfl
      have := atKey_of_not_has h0 (.lit (.int .i64 0))
      rw [HAT.out r] at this
      exact this
  case round =>
    clear hrg0 hg0 hs0 hown
    obtain ⟨left, cnt, D1, hrg, hgw, HR⟩ := hrel
    have hc13 : wr.cell? ⟨g, 13, none⟩ = some (.map (some bm)) := (blk_cell (IsG.kept HI.out hgw hne).1 13).trans rfl
    go_wp2_with (first
      | (at_next; refine wpList_next_ranges_ii _ rfl _ rfl 3 3 .i64 .i64 law3 Try.underlying3 Try.underlying3 bm w.heap.size k _ _ _ rfl hrg ?_ ?_))
    · intro _ hl0
      go_wp2
      go_end0
      refine ⟨rfl, ⟨D1, hrg.owns, fun r => ?_⟩, hgw⟩
      rw [HR.out r, hl0]
      simp
    · intro x c w1 cnt1 hwx hwc hlx hat hrg1 hlt hg1 hs1 hen
      have hgw1 := hgw.andThen hg1 (fun j hj => by cases hj; exact Or.inl (Nat.le_refl _))
      have hc13b : w1.cell? ⟨g, 13, none⟩ = some (.map (some bm)) := (blk_cell (IsG.kept HI.out hgw1 hne).1 13).trans rfl
      have HLX := Aside0.mk hlx
      have HAT1 := Aside0.mk hat
      have hcm : M x = c := by
        have h1 := HR.out x
        rw [hat, hlx, if_pos (Or.inl rfl)] at h1
        cases h1; rfl
      have hcm0 : 0 ≤ c := by rw [← hcm]; exact HM0.out x
      have HCM := Aside0.mk hcm
      have hbx := bounds_i64 hwx
      obtain ⟨bx0, bx1⟩ := hbx
      have HWX := Aside0.mk hwx
      have hrg1' := hrg1
      clear hwx hwc hlx hat hcm hc13
      by_cases h1 : x < rd - 64
      · by_cases h2 : 0 < c
        · go_wp2_with (first
            | (at_delete; refine wpList_delete_ranges _ rfl _ _ 90 3 rfl 3 law3 Try.underlying90 _ bm w.heap.size k _ _ _ rfl hrg1 _ _ rfl (keyOf_int_mk Try.underlying3 HWX.out) ?_; intro w2 cnt2 hrg2 hle hturn; go_frame))
          rw [strike_twice] at hrg2
          go_roundw
          case rel =>
            refine ⟨_, cnt2, _, hrg2, hgw1.andThen hturn.grown (fun j hj => by cases hj; exact Or.inr rfl), ⟨fun r => ?_⟩⟩
            by_cases hr : r = x
            · subst hr
              rw [atKey_del_same]
              have hsk : (Lit.int .i64 r).sameKey (.int .i64 r) = true := WideAt.sameKey_self trivial
              rw [hsk, if_neg (by simp; omega)]
            · have hsk : (Lit.int .i64 r).sameKey (.int .i64 x) = false := sameKey_ne (fun e => hr (by cases e; rfl))
              rw [atKey_del_other (fun e => hr (by cases e; rfl)), HR.out r, hsk]
              simp
          case measure => rw [hrg2.left_eq, hrg.left_eq]; omega
        · have hc0 : c = 0 := by omega
          go_wp2
          go_roundw
          case rel =>
            refine ⟨_, cnt1, _, hrg1, hgw1, ⟨fun r => ?_⟩⟩
            by_cases hr : r = x
            · subst hr
              have hsk : (Lit.int .i64 r).sameKey (.int .i64 r) = true := WideAt.sameKey_self trivial
              rw [HAT1.out, hsk, if_neg (by simp; omega), hc0]
            · have hsk : (Lit.int .i64 r).sameKey (.int .i64 x) = false := sameKey_ne (fun e => hr (by cases e; rfl))
              rw [HR.out r, hsk]
              simp
          case measure => rw [hrg1.left_eq, hrg.left_eq]; exact hlt
      · go_wp2
        go_roundw
        case rel =>
          refine ⟨_, cnt1, _, hrg1, hgw1, ⟨fun r => ?_⟩⟩
          by_cases hr : r = x
          · subst hr
            rw [HAT1.out, if_pos (Or.inr (by omega)), HCM.out]
          · have hsk : (Lit.int .i64 r).sameKey (.int .i64 x) = false := sameKey_ne (fun e => hr (by cases e; rfl))
            rw [HR.out r, hsk]
            simp
        case measure => rw [hrg1.left_eq, hrg.left_eq]; exact hlt
end Go.Proofs.Ytfaikkhnlioajaa.Gd3
