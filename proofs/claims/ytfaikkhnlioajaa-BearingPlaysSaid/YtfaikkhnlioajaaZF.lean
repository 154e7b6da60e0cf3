/- Texts of this seat, one behind the other: Rd Rq Rr Rs Rt. -/
import Derived.WalkKit
import Derived.Test.YtfaikkhnlioajaaWWords
import Derived.Test.YtfaikkhnlioajaaProg
import Derived.Below
import Derived.Deep.Draws
import Derived.Deep.AppendLies
import Derived.Maps.AppendAt
import Derived.OwnWalk
import Derived.Laws.BytesArg
import Derived.Laws.MakeOwn
import Derived.Laws.OwnMore
import Derived.Deep.OwnRows
import Derived.Tactics
import Derived.Lib.ConvBytes
import Derived.Laws.Slices
import Derived.KernelRfl
import Derived.RowKit3
import Derived.Deep.LoopGhost
import Derived.Deep.QuietTactic
import Derived.BigQuiet
import Derived.WideLaws
import Derived.Deep.DeepCutAuto
import Derived.Deep.CutBlock
import Derived.Deep.RegionHeld3
import Derived.Laws.Rows
import Derived.Lib.AppendStr
import Derived.ArgAppend
import Derived.Laws.IdiomCopy
import Derived.OrdersHeld
import Derived.Laws.BitsLemmas
import Derived.RowKit
import Derived.RegionTactic
import Derived.ChangeAlike
import Derived.Outline
import Derived.LoopTactic
import Derived.WalkSpells
import Derived.WalkLawsBesides
import Derived.Lib.Hide
import Derived.StillTailTactics
import Derived.Deep.RegionWith
import Derived.Deep.RegionLaw
import Derived.Deep.DeepFit
import Derived.Deep.DeepMust
import Derived.Test.YtfaikkhnlioajaaWLast
import Derived.Test.YtfaikkhnlioajaaWTab
import Derived.Test.YtfaikkhnlioajaaWFour
import Derived.Test.YtfaikkhnlioajaaWQPut
import Derived.Test.YtfaikkhnlioajaaWApart
import Derived.Test.YtfaikkhnlioajaaWArr
import Derived.Test.YtfaikkhnlioajaaWZeros
import Derived.Test.YtfaikkhnlioajaaWFoot
import Derived.Test.YtfaikkhnlioajaaWKept
import Derived.Test.YtfaikkhnlioajaaWShare
import Derived.Test.YtfaikkhnlioajaaWN
import Derived.Test.YtfaikkhnlioajaaWFootNe
import Derived.Test.YtfaikkhnlioajaaWAt
import Derived.Test.YtfaikkhnlioajaaWEqStruct
import Derived.Test.YtfaikkhnlioajaaWRepsOne
import Derived.Test.YtfaikkhnlioajaaWInv
import Derived.Test.YtfaikkhnlioajaaWInvWords
import Derived.Test.YtfaikkhnlioajaaWGuard
import Derived.Test.YtfaikkhnlioajaaWNEv
import Derived.Test.YtfaikkhnlioajaaWMore
import Derived.Test.YtfaikkhnlioajaaRp
import Derived.Test.YtfaikkhnlioajaaZD
section
namespace Go.Proofs.Ytfaikkhnlioajaa.Rd
open Go.RowKit Go.Proofs.YtfaikkhnlioajaaW.PrintWords
set_option linter.unusedVariables false

/-- A slice of bools that lies in memory. -/
def BoolsAt (W : World) (A : Option Addr) (l : List Bool) : Prop := ∀ i : Nat, i < l.length → ∃ a, A = some a ∧ W.cell? (a.add i) = some (.bool (l.getD i false))
/-- A slice of rows of F numbers that lies in memory. -/
def IntsAt (W : World) (A : Option Addr) (k : IntKind) (F n : Nat) (x : Nat → Nat → Int) : Prop := ∀ i : Nat, i < n → ∃ a, A = some a ∧ ∀ j, j < F → W.cell? (a.add (i * F + j)) = some (.int k (x i j))
/-- A slice of byte slices that lies in memory. -/
def BytesAt (W : World) (A : Option Addr) (n : Nat) (s : Nat → Option Addr) (cp : Nat → Nat) (b : Nat → List Int) : Prop :=
  ∀ i : Nat, i < n → (∃ a, A = some a ∧ W.cell? (a.add i) = some (.slice (s i) (b i).length (cp i))) ∧ Kd.C (Kd.int .u8) W (s i) (b i).length (b i) ∧ (b i).length ≤ cp i ∧ (b i).length ≤ maxLen ∧ (∀ x ∈ b i, (Lit.int .u8 x).wf = true)

end Go.Proofs.Ytfaikkhnlioajaa.Rd
end
section
namespace Go.Proofs.Ytfaikkhnlioajaa.Rq
open Go.RowKit Go.Proofs.YtfaikkhnlioajaaW.PrintWords Go.Proofs.YtfaikkhnlioajaaW.PrintLast Go.Proofs.YtfaikkhnlioajaaW.PrintMore 
attribute [local go_sem] max2_int min2_int max_two min_two max_three min_three max_four min_four
set_option linter.unusedVariables false
set_option linter.unusedSimpArgs false
open Go.Proofs.Ytfaikkhnlioajaa.QBase Go.Proofs.Ytfaikkhnlioajaa.Sch Go.Proofs.Ytfaikkhnlioajaa.Plc Go.Proofs.Ytfaikkhnlioajaa.Gd1 Go.Proofs.Ytfaikkhnlioajaa.Gd3 Go.Proofs.Ytfaikkhnlioajaa.Gd4 Go.Proofs.Ytfaikkhnlioajaa.BrP Go.Proofs.Ytfaikkhnlioajaa.Br1 Go.Proofs.Ytfaikkhnlioajaa.Br2 Go.Proofs.Ytfaikkhnlioajaa.Br4 Go.Proofs.Ytfaikkhnlioajaa.Ra Go.Proofs.Ytfaikkhnlioajaa.Rb Go.Proofs.Ytfaikkhnlioajaa.Rc Go.Proofs.Ytfaikkhnlioajaa.Re Go.Proofs.Ytfaikkhnlioajaa.Br5 Go.Proofs.Ytfaikkhnlioajaa.Br6 Go.Proofs.Ytfaikkhnlioajaa.Rp Go.Proofs.Ytfaikkhnlioajaa.Br7 Go.Proofs.Ytfaikkhnlioajaa.Br8 Go.Proofs.Ytfaikkhnlioajaa.Br9 Go.Proofs.Ytfaikkhnlioajaa.BrD Go.Maps
attribute [local go_sem] cellS1 frozenS1 cellS2 frozenS2 cellS3 frozenS3 cellS4 frozenS4 cellS5 frozenS5 cellS6 frozenS6

set_option maxRecDepth 100000 in
set_option maxHeartbeats 8000000 in
theorem rnear_ok (h lb : Nat) (n f s dl ks ee wd rh sl cp i : Int) (t a : Int) (z w : World) (M : KM) (hI : IsRf z w h lb n f s dl ks ee wd rh sl cp i M) (hMo : KOk M) (hk : Ok n f s dl ks ee wd rh sl cp) (ha : nearL ee (upto n i (2 * (n * s)) (rh + sl) M t n.toNat) = a) : Calls Try.prog 38 #[.pointer (some ⟨h, 0, none⟩), .int .i64 t] w fun en w' => en = .returned (.int .i64 a) ∧ Below w.heap.size w w' := by
  have hn : 1 ≤ n ∧ n ≤ 8 := by unfold Ok at hk; omega
  obtain ⟨n0, n8⟩ := hn
  have hee : 1 ≤ ee ∧ ee ≤ 40000 := by unfold Ok at hk; omega
  obtain ⟨ee0, ee1⟩ := hee
  have HAT := Aside0.mk (fun (r x y e : Int) (W : World) (h1 : IsRf z W h lb n f s dl ks ee wd rh sl cp i M) (he : atF n i (2 * (n * s)) (rh + sl) M r t = (x, y, e)) => rat_any h lb n f s dl ks ee wd rh sl cp i r t x y e z W M h1 hMo hk he)
  have HI := Aside0.mk hI
  clear hI hMo hk
  have HA := Aside0.mk ha
  have HIN := Aside0.mk (fun (x y : Int) => inside_same x y ee (by omega) (by omega))
  clear ha
  go_enter Try.func38, Try.ntmps38
  go_wp2
  go_loopw [5, 6] (fun vn vi wr => ∃ (j : Nat) (m : Int), vn = .int .i64 m ∧ vi = .int .i64 j ∧ j ≤ n.toNat ∧ 1 ≤ m ∧ m ≤ 1 + j ∧ Aside0 (nearL ee (upto n i (2 * (n * s)) (rh + sl) M t j) = m) ∧ Aside0 (IsRf z wr h lb n f s dl ks ee wd rh sl cp i M) ∧ Aside0 (Below w.heap.size w wr)) (fun _ vi _ => n.toNat - (intOf vi).toNat)
  case atStart => exact ⟨0, 1, rfl, rfl, Nat.zero_le _, by omega, by omega, ⟨rfl⟩, HI, ⟨Below.refl _ _⟩⟩
  case round =>
    obtain ⟨j, m, rfl, rfl, hj, m1, m2, HM, J5, B5⟩ := hrel
    have c0 : wr.cell? ⟨h, 0, none⟩ = some (.int .i64 n) := (blk_cell J5.out.1 0).trans rfl
    by_cases hlt : j < n.toNat
    · have hltb : decide ((j : Int) < n) = true := decide_eq_true (by omega)
      obtain ⟨x, y, e, he⟩ : ∃ x y e, atF n i (2 * (n * s)) (rh + sl) M (j : Nat) t = (x, y, e) := ⟨_, _, _, rfl⟩
      have HC := Aside0.mk (HAT.out _ x y e _ J5.out he)
      have HE := Aside0.mk he
      clear he
      by_cases he0 : e = 0
      · subst he0
        obtain ⟨b, _, hb⟩ := HIN.out x y
        have HS : Aside0 (nearL ee (upto n i (2 * (n * s)) (rh + sl) M t (j + 1)) = if b = true then m + 1 else m) := ⟨by
          rw [upto_in _ _ _ _ _ _ _ HE.out, nearL_snoc, HM.out]
          unfold insB
          obtain ⟨b', h1, h2⟩ := HIN.out x y
          rw [hb] at h2
          cases h2
          dsimp only
          rw [h1]
          cases b <;> simp⟩
        have HB := Aside0.mk hb
        clear hb
        go_upto_region 6 with (first | (go_at_call 36; go_loud (refine (HC.out).mono ?_; rintro en w1 ⟨rfl, a1⟩; have J1 := Aside0.mk (J5.out.below a1); have B1 := Aside0.mk (below_step B5.out a1); clear a1)))
        have q1 := Aside0.mk (IsRf.drew (IsRf.alloc J1.out (.cells #[.int .i64 x, .int .i64 y] 61 (0, 0))))
        have q2 := Aside0.mk (below_drew (below_alloc B1.out (.cells #[.int .i64 x, .int .i64 y] 61 (0, 0))))
        have q4 := Aside0.mk (blk_drew (blk_new w1 (.cells #[.int .i64 x, .int .i64 y] 61 (0, 0))))
        refine wp_gen (fun W => (IsRf z W h lb n f s dl ks ee wd rh sl cp i M) ∧ W.heap[w1.heap.size]? = some (.cells #[.int .i64 x, .int .i64 y] 61 (0, 0)) ∧ Below w.heap.size w W) ⟨J1.out.alloc _, blk_new _ _, below_alloc B1.out _⟩ ?_
        clear q1 q2 q4
        rintro W ⟨j1, j2, j3⟩
        have x0 : W.cell? ⟨w1.heap.size, 0, none⟩ = some (.int .i64 x) := (blk_cell j2 0).trans rfl
        have x1 : W.cell? ⟨w1.heap.size, 1, none⟩ = some (.int .i64 y) := (blk_cell j2 1).trans rfl
        have g5 : W.cell? ⟨h, 5, none⟩ = some (.int .i64 ee) := (blk_cell j1.1 5).trans rfl
        have q1 := Aside0.mk (IsRf.drew j1)
        have q2 := Aside0.mk (below_drew j3)
        have q3 := Aside0.mk (blk_drew j2)
        clear j1 j2 j3 c0
        go_region_held3 (fun W => W.cell? ⟨w1.heap.size, 0, none⟩ = some (.int .i64 x) ∧ W.cell? ⟨w1.heap.size, 1, none⟩ = some (.int .i64 y) ∧ W.cell? ⟨h, 5, none⟩ = some (.int .i64 ee)) (go_keep) (first | (go_at_call 64; go_loud (refine (carillonref08_Inside.calls x y ee b _ HB.out).mono ?_; rintro en w7 ⟨rfl, a1⟩; have J7 := Aside0.mk (IsRf.below q1.out a1); have B7 := Aside0.mk (below_step q2.out a1); have K7 := Aside0.mk (blk_below q3.out a1); have y0 : w7.cell? ⟨w1.heap.size, 0, none⟩ = some (.int .i64 x) := (blk_cell K7.out 0).trans rfl; have y1 : w7.cell? ⟨w1.heap.size, 1, none⟩ = some (.int .i64 y) := (blk_cell K7.out 1).trans rfl; have h5 : w7.cell? ⟨h, 5, none⟩ = some (.int .i64 ee) := (blk_cell J7.out.1 5).trans rfl; clear a1)))
        cases b with
        | true =>
          go_wp2
          go_roundw
          case rel => exact ⟨j + 1, m + 1, rfl, by go_num, by omega, by omega, by omega, ⟨HS.out⟩, J7, B7⟩
          case measure => simp [intOf]; omega
        | false =>
          go_wp2
          go_roundw
          case rel => exact ⟨j + 1, m, rfl, by go_num, by omega, by omega, by omega, ⟨HS.out⟩, J7, B7⟩
          case measure => simp [intOf]; omega
      · have heb : (e == 0) = false := beq_eq_false_iff_ne.2 he0
        have HS : Aside0 (nearL ee (upto n i (2 * (n * s)) (rh + sl) M t (j + 1)) = m) := ⟨by rw [upto_out _ _ _ _ _ _ _ HE.out he0]; exact HM.out⟩
        clear he0
        go_upto_region 6 with (first | (go_at_call 36; go_loud (refine (HC.out).mono ?_; rintro en w1 ⟨rfl, a1⟩; have J1 := Aside0.mk (J5.out.below a1); have B1 := Aside0.mk (below_step B5.out a1); clear a1)))
        refine wp_gen (fun W => (IsRf z W h lb n f s dl ks ee wd rh sl cp i M) ∧ Below w.heap.size w W) ⟨J1.out.alloc _, below_alloc B1.out _⟩ ?_
        rintro W ⟨j1, j2⟩
        have J7 := Aside0.mk j1
        have B7 := Aside0.mk j2
        clear j1 j2 c0
        go_quiet (fail)
        go_wp2
        go_roundw
        case rel => exact ⟨j + 1, m, rfl, by go_num, by omega, by omega, by omega, HS, ⟨J7.out.drewN _⟩, ⟨pw_below_drewN B7.out _⟩⟩
        case measure => simp [intOf]; omega
    · have hltb : decide ((j : Int) < n) = false := decide_eq_false (by omega)
      obtain rfl : j = n.toNat := by omega
      obtain rfl : a = m := HA.out.symm.trans HM.out
      go_wp2
      go_ret
      exact ⟨rfl, B5.out⟩
end Go.Proofs.Ytfaikkhnlioajaa.Rq
end
section
namespace Go.Proofs.Ytfaikkhnlioajaa.Rr
open Go.RowKit Go.Proofs.YtfaikkhnlioajaaW.PrintWords Go.Proofs.YtfaikkhnlioajaaW.PrintLast Go.Proofs.YtfaikkhnlioajaaW.PrintMore 
attribute [local go_sem] max2_int min2_int max_two min_two max_three min_three max_four min_four
set_option linter.unusedVariables false
set_option linter.unusedSimpArgs false
open Go.Proofs.Ytfaikkhnlioajaa.QBase Go.Proofs.Ytfaikkhnlioajaa.Sch Go.Proofs.Ytfaikkhnlioajaa.Plc Go.Proofs.Ytfaikkhnlioajaa.Gd1 Go.Proofs.Ytfaikkhnlioajaa.Gd3 Go.Proofs.Ytfaikkhnlioajaa.Gd4 Go.Proofs.Ytfaikkhnlioajaa.BrP Go.Proofs.Ytfaikkhnlioajaa.Br1 Go.Proofs.Ytfaikkhnlioajaa.Br2 Go.Proofs.Ytfaikkhnlioajaa.Br4 Go.Proofs.Ytfaikkhnlioajaa.Ra Go.Proofs.Ytfaikkhnlioajaa.Rb Go.Proofs.Ytfaikkhnlioajaa.Rc Go.Proofs.Ytfaikkhnlioajaa.Re Go.Proofs.Ytfaikkhnlioajaa.Br5 Go.Proofs.Ytfaikkhnlioajaa.Br6 Go.Proofs.Ytfaikkhnlioajaa.Rp Go.Proofs.Ytfaikkhnlioajaa.Br7 Go.Proofs.Ytfaikkhnlioajaa.Br8 Go.Proofs.Ytfaikkhnlioajaa.Br9 Go.Proofs.Ytfaikkhnlioajaa.BrD Go.Proofs.Ytfaikkhnlioajaa.Rq Go.Maps
attribute [local go_sem] cellS1 frozenS1 cellS2 frozenS2 cellS3 frozenS3 cellS4 frozenS4 cellS5 frozenS5 cellS6 frozenS6

theorem own_below {W W' : World} {b m : Nat} {e : TypeId} {size : Nat} {v : Value} {xs : List Value} (hh : W.ownsRow b e size v m xs) (hb : Below W.heap.size W W') : W'.ownsRow b e size v m xs := by
  refine hh.kept (grown_of_below none hb) ?_
  rcases hh.2 with ⟨rfl, _⟩ | ⟨g, cap, cur, rfl, _, hgb, _⟩
  · exact Or.inl rfl
  · exact Or.inr (by simp [Value.ownBlock])
/-- An append leaves what lies beside the row. -/
theorem app_kept {W W' : World} {b m : Nat} {e : TypeId} {size : Nat} {v : Value} {xs : List Value} {tmp : Obj} (hh : W.ownsRow b e size v m xs) (hg : (W.alloc tmp).grownBy W' v.ownBlock) {j : Nat} {cs : Array Value} {t : TypeId} {fr : Nat × Nat} (hj : W.heap[j]? = some (.cells cs t fr)) (hne : t ≠ e ∨ j < b) : W'.heap[j]? = some (.cells cs t fr) := by
  refine (hg.block j (by have := blk_lt hj; simp; omega) (fun e' => ?_)).trans ((Below.heap_alloc W tmp j (blk_lt hj)).trans hj)
  rcases hh.2 with ⟨rfl, _⟩ | ⟨g, cap, cur, rfl, hb, hgb, _⟩
  · simp [Value.ownBlock] at e'
  · simp [Value.ownBlock] at e'
    subst e'
    rcases hne with h1 | h1
    · rw [hj] at hgb; cases hgb; exact h1 rfl
    · omega
theorem app_below {W W' w : World} {b m : Nat} {e : TypeId} {size : Nat} {v : Value} {xs : List Value} {tmp : Obj} (hh : W.ownsRow b e size v m xs) (hg : (W.alloc tmp).grownBy W' v.ownBlock) (hB : Below w.heap.size w W) (hb : w.heap.size ≤ b) : Below w.heap.size w W' := by
  refine (hB.alloc hB.size tmp).grown hg (Nat.le_trans hB.size (by simp)) (fun j e' => ?_)
  rcases hh.2 with ⟨rfl, _⟩ | ⟨g, cap, cur, rfl, hb', hgb, _⟩
  · simp [Value.ownBlock] at e'
  · simp [Value.ownBlock] at e'
    omega
theorem IsRf.app {z W W' : World} {h lb : Nat} {n f s dl ks ee wd rh sl cp i : Int} {M : KM} (hI : IsRf z W h lb n f s dl ks ee wd rh sl cp i M) {b m : Nat} {e : TypeId} {size : Nat} {v : Value} {xs : List Value} {tmp : Obj} (hh : W.ownsRow b e size v m xs) (hg : (W.alloc tmp).grownBy W' v.ownBlock) (h1 : h < b) (h2 : lb < b) : IsRf z W' h lb n f s dl ks ee wd rh sl cp i M :=
  ⟨app_kept hh hg hI.1 (Or.inr h1), app_kept hh hg hI.2.1 (Or.inr h2), hI.2.2⟩
set_option maxRecDepth 100000 in
set_option maxHeartbeats 8000000 in
theorem rfresh_ok (h lb : Nat) (n f s dl ks ee wd rh sl cp i : Int) (t : Int) (l : List (Int × Int × Int)) (z w : World) (M : KM) (hI : IsRf z w h lb n f s dl ks ee wd rh sl cp i M) (hMo : KOk M) (hk : Ok n f s dl ks ee wd rh sl cp) (ha : upto n i (2 * (n * s)) (rh + sl) M t n.toNat = l) : Calls Try.prog 39 #[.pointer (some ⟨h, 0, none⟩), .int .i64 t] w fun en w' => ∃ v, en = .returned v ∧ w'.ownsRow w.heap.size 3 1 v l.length (freshV l) ∧ Below w.heap.size w w' := by
  obtain ⟨i0, hi, hz0, hz1, hz2⟩ := info_parts info3e
  have hn : 1 ≤ n ∧ n ≤ 8 := by unfold Ok at hk; omega
  obtain ⟨n0, n8⟩ := hn
  have hee : 1 ≤ ee ∧ ee ≤ 40000 := by unfold Ok at hk; omega
  obtain ⟨ee0, ee1⟩ := hee
  have HAT := Aside0.mk (fun (r x y e : Int) (W : World) (h1 : IsRf z W h lb n f s dl ks ee wd rh sl cp i M) (he : atF n i (2 * (n * s)) (rh + sl) M r t = (x, y, e)) => rat_any h lb n f s dl ks ee wd rh sl cp i r t x y e z W M h1 hMo hk he)
  have HI := Aside0.mk hI
  clear hI hMo hk
  have HA := Aside0.mk ha
  clear ha
  have hh0 := blk_lt HI.out.1
  have hl0 := blk_lt HI.out.2.1
  go_enter Try.func39, Try.ntmps39
  go_wp2
  go_loopw [5, 6] (fun v vi wr => ∃ (j : Nat) (L : List (Int × Int × Int)) (A : Option Addr) (c : Nat), v = .slice A L.length c ∧ vi = .int .i64 j ∧ j ≤ n.toNat ∧ Aside0 (upto n i (2 * (n * s)) (rh + sl) M t j = L) ∧ Aside0 (wr.ownsRow w.heap.size 3 1 (.slice A L.length c) L.length (freshV L)) ∧ Aside0 (IsRf z wr h lb n f s dl ks ee wd rh sl cp i M) ∧ Aside0 (Below w.heap.size w wr)) (fun _ vi _ => n.toNat - (intOf vi).toNat)
  case atStart => exact ⟨0, [], none, 0, rfl, rfl, Nat.zero_le _, ⟨rfl⟩, ⟨World.ownsRow_nil _ _ _ _⟩, HI, ⟨Below.refl _ _⟩⟩
  case round =>
    obtain ⟨j, L, A, c, rfl, rfl, hj, HL, O5, J5, B5⟩ := hrel
    have c0 : wr.cell? ⟨h, 0, none⟩ = some (.int .i64 n) := (blk_cell J5.out.1 0).trans rfl
    by_cases hlt : j < n.toNat
    · have hltb : decide ((j : Int) < n) = true := decide_eq_true (by omega)
      obtain ⟨x, y, e, he⟩ : ∃ x y e, atF n i (2 * (n * s)) (rh + sl) M (j : Nat) t = (x, y, e) := ⟨_, _, _, rfl⟩
      have HC := Aside0.mk (HAT.out _ x y e _ J5.out he)
      have HE := Aside0.mk he
      clear he
      have hul := upto_len n i (2 * (n * s)) (rh + sl) M t j
      rw [HL.out] at hul
      by_cases he0 : e = 0
      · subst he0
        have HS : Aside0 (upto n i (2 * (n * s)) (rh + sl) M t (j + 1) = L ++ [(((j : Nat) : Int), x, y)]) := ⟨by rw [upto_in _ _ _ _ _ _ _ HE.out, HL.out]⟩
        go_wp2_with (first | (go_at_call 36; go_loud (refine (HC.out).mono ?_; rintro en w1 ⟨rfl, a1⟩; have J1 := Aside0.mk (J5.out.below a1); have B1 := Aside0.mk (below_step B5.out a1); have O1 := Aside0.mk (own_below O5.out a1); clear a1)) | (at_builtin; go_loud (refine wpList_append_own _ rfl _ _ 48 rfl w.heap.size 3 i0 (.int .i64 0) 1 8 Try.underlying48 hi hz0 hz1 hz2 rfl (by decide) _ _ _ rfl ((O1.out.alloc (.cells #[.int .i64 x, .int .i64 y] 61 (0, 0))).alloc _) ⟨w1.heap.size + 1, 0, none⟩ 1 1 [.int .i64 (j : Int)] rfl rfl (fun q u hq => by have hh := cells_new (w1.alloc (.cells #[.int .i64 x, .int .i64 y] 61 (0, 0))) #[.int .i64 (j : Int)] 3 q u hq; rw [World.size_alloc] at hh; exact hh) (by simp [Value.oneCell']) (by unfold maxLen; omega) (by omega) (by have := B1.out.size; simp; omega) ?_; intro v' w9 hown' hgrow _; obtain ⟨A9, c9, rfl⟩ := own_slice hown'; have O9 := Aside0.mk hown'; have G9 := Aside0.mk hgrow; clear hown' hgrow)))
        go_roundw
        case rel => exact ⟨j + 1, L ++ [(((j : Nat) : Int), x, y)], A9, c9, by rw [List.length_append]; rfl, by go_num, by omega, HS, ⟨by rw [List.length_append]; unfold freshV; rw [List.map_append]; exact O9.out⟩, ⟨IsRf.app (IsRf.alloc J1.out _) (O1.out.alloc _) G9.out (by omega) (by omega)⟩, ⟨app_below (O1.out.alloc _) G9.out (below_alloc B1.out _) (Nat.le_refl _)⟩⟩
        case measure => simp [intOf]; omega
      · have heb : (e == 0) = false := beq_eq_false_iff_ne.2 he0
        have HS : Aside0 (upto n i (2 * (n * s)) (rh + sl) M t (j + 1) = L) := ⟨by rw [upto_out _ _ _ _ _ _ _ HE.out he0]; exact HL.out⟩
        clear he0
        go_wp2_with (first | (go_at_call 36; go_loud (refine (HC.out).mono ?_; rintro en w1 ⟨rfl, a1⟩; have J1 := Aside0.mk (J5.out.below a1); have B1 := Aside0.mk (below_step B5.out a1); have O1 := Aside0.mk (own_below O5.out a1); clear a1)))
        go_roundw
        case rel => exact ⟨j + 1, L, A, c, rfl, by go_num, by omega, HS, ⟨O1.out.alloc _⟩, ⟨J1.out.alloc _⟩, ⟨below_alloc B1.out _⟩⟩
        case measure => simp [intOf]; omega
    · have hltb : decide ((j : Int) < n) = false := decide_eq_false (by omega)
      obtain rfl : j = n.toNat := by omega
      obtain rfl : l = L := HA.out.symm.trans HL.out
      go_wp2
      go_ret
      exact ⟨_, rfl, O5.out, B5.out⟩
end Go.Proofs.Ytfaikkhnlioajaa.Rr
end
section
namespace Go.Proofs.Ytfaikkhnlioajaa.Rs
open Go.RowKit Go.Proofs.YtfaikkhnlioajaaW.PrintWords Go.Proofs.YtfaikkhnlioajaaW.PrintLast Go.Proofs.YtfaikkhnlioajaaW.PrintMore 
attribute [local go_sem] max2_int min2_int max_two min_two max_three min_three max_four min_four
set_option linter.unusedVariables false
set_option linter.unusedSimpArgs false
open Go.Proofs.Ytfaikkhnlioajaa.QBase Go.Proofs.Ytfaikkhnlioajaa.Sch Go.Proofs.Ytfaikkhnlioajaa.Plc Go.Proofs.Ytfaikkhnlioajaa.Gd1 Go.Proofs.Ytfaikkhnlioajaa.Gd3 Go.Proofs.Ytfaikkhnlioajaa.Gd4 Go.Proofs.Ytfaikkhnlioajaa.BrP Go.Proofs.Ytfaikkhnlioajaa.Br1 Go.Proofs.Ytfaikkhnlioajaa.Br2 Go.Proofs.Ytfaikkhnlioajaa.Br4 Go.Proofs.Ytfaikkhnlioajaa.Ra Go.Proofs.Ytfaikkhnlioajaa.Rb Go.Proofs.Ytfaikkhnlioajaa.Rc Go.Proofs.Ytfaikkhnlioajaa.Re Go.Proofs.Ytfaikkhnlioajaa.Br5 Go.Proofs.Ytfaikkhnlioajaa.Br6 Go.Proofs.Ytfaikkhnlioajaa.Rp Go.Proofs.Ytfaikkhnlioajaa.Br7 Go.Proofs.Ytfaikkhnlioajaa.Br8 Go.Proofs.Ytfaikkhnlioajaa.Br9 Go.Proofs.Ytfaikkhnlioajaa.BrD Go.Proofs.Ytfaikkhnlioajaa.Rq Go.Proofs.Ytfaikkhnlioajaa.Rr Go.Maps
attribute [local go_sem] cellS1 frozenS1 cellS2 frozenS2 cellS3 frozenS3 cellS4 frozenS4 cellS5 frozenS5 cellS6 frozenS6

/-- What the reference tells of all those below j, and its own. -/
def ro (n i kp d : Int) (M : KM) (t : Int) : Nat → List (Int × Int)
  | 0 => []
  | j + 1 => if (j : Int) = i then ro n i kp d M t j ++ [(0, 0)] else if (atF n i kp d M (j : Int) t).2.2 = 0 then ro n i kp d M t j ++ [((atF n i kp d M (j : Int) t).1, (atF n i kp d M (j : Int) t).2.1)] else ro n i kp d M t j
theorem ro_len (n i kp d : Int) (M : KM) (t : Int) (j : Nat) : (ro n i kp d M t j).length ≤ j := by
  induction j with
  | zero => exact Nat.le_refl _
  | succ j ih =>
    unfold ro
    split
    · rw [List.length_append]; exact Nat.add_le_add_right ih 1
    · split
      · rw [List.length_append]; exact Nat.add_le_add_right ih 1
      · exact Nat.le_succ_of_le ih
theorem at_own {n i kp d : Int} {M : KM} {t : Int} : (atF n i kp d M i t).2.2 = 1 := by
  unfold atF
  rw [if_neg (by unfold mayF; simp)]
theorem ro_off (n i kp d : Int) (M : KM) (t : Int) (hi0 : 0 ≤ i) (j : Nat) :
    ((j : Int) ≤ i → offS i (upto n i kp d M t j) = (ro n i kp d M t j, false)) ∧
    (i < (j : Int) → ((offS i (upto n i kp d M t j)).2 = true ∧ (offS i (upto n i kp d M t j)).1 = ro n i kp d M t j) ∨ ((offS i (upto n i kp d M t j)).2 = false ∧ ro n i kp d M t j = (offS i (upto n i kp d M t j)).1 ++ [(0, 0)])) := by
  induction j with
  | zero => exact ⟨fun _ => rfl, fun h => absurd h (by omega)⟩
  | succ j ih =>
    obtain ⟨x, y, e, he⟩ : ∃ x y e, atF n i kp d M (j : Int) t = (x, y, e) := ⟨_, _, _, rfl⟩
    have hro : ro n i kp d M t (j + 1) = if (j : Int) = i then ro n i kp d M t j ++ [(0, 0)] else if e = 0 then ro n i kp d M t j ++ [(x, y)] else ro n i kp d M t j := by
      show (if (j : Int) = i then _ else if (atF n i kp d M (j : Int) t).2.2 = 0 then _ else _) = _
      rw [he]
    by_cases hji : (j : Int) = i
    · have h1 := ih.1 (by omega)
      have hne : e ≠ 0 := by
        have := at_own (n := n) (i := i) (kp := kp) (d := d) (M := M) (t := t)
        rw [← hji] at this
        rw [← hji] at he
        rw [he] at this
        intro h0
        rw [h0] at this
        cases this
      rw [upto_out _ _ _ _ _ _ _ he hne, hro, if_pos hji, h1]
      exact ⟨fun h => absurd h (by omega), fun _ => Or.inr ⟨rfl, rfl⟩⟩
    · rw [hro, if_neg hji]
      by_cases h0 : e = 0
      · subst h0
        rw [if_pos rfl, upto_in _ _ _ _ _ _ _ he, offS_snoc]
        refine ⟨fun h => ?_, fun h => ?_⟩
        · rw [ih.1 (by omega)]
          unfold stO
          rw [if_neg (fun h' => by have := h'.1; dsimp only at this; omega)]
        · rcases ih.2 (by omega) with ⟨h1, h2⟩ | ⟨h1, h2⟩
          · unfold stO
            rw [if_neg (fun h' => by have := h'.2; rw [h1] at this; cases this)]
            exact Or.inl ⟨h1, by dsimp only; rw [h2]⟩
          · unfold stO
            rw [if_pos ⟨by dsimp only; omega, h1⟩]
            exact Or.inl ⟨rfl, by dsimp only; rw [h2]⟩
      · rw [if_neg h0, upto_out _ _ _ _ _ _ _ he h0]
        exact ⟨fun h => ih.1 (by omega), fun h => ih.2 (by omega)⟩
theorem ro_eq (n i kp d : Int) (M : KM) (t : Int) (hi0 : 0 ≤ i) (hi1 : i < n) : offL i (upto n i kp d M t n.toNat) = ro n i kp d M t n.toNat := by
  unfold offL
  rcases (ro_off n i kp d M t hi0 n.toNat).2 (by omega) with ⟨h1, h2⟩ | ⟨h1, h2⟩
  · rw [if_pos h1, h2]
  · rw [if_neg (by rw [h1]; decide), h2]
set_option maxRecDepth 100000 in
set_option maxHeartbeats 8000000 in
theorem roffs_ok (h lb : Nat) (n f s dl ks ee wd rh sl cp i : Int) (t : Int) (l : List (Int × Int)) (z w : World) (M : KM) (hI : IsRf z w h lb n f s dl ks ee wd rh sl cp i M) (hMo : KOk M) (hk : Ok n f s dl ks ee wd rh sl cp) (ha : ro n i (2 * (n * s)) (rh + sl) M t n.toNat = l) : Calls Try.prog 41 #[.pointer (some ⟨h, 0, none⟩), .int .i64 t] w fun en w' => ∃ v, en = .returned v ∧ w'.ownsRow w.heap.size 61 2 v l.length (flat2 l) ∧ Below w.heap.size w w' := by
  obtain ⟨i0, hi, hz0, hz1, hz2⟩ := info_parts info61e
  have hn : 1 ≤ n ∧ n ≤ 8 := by unfold Ok at hk; omega
  obtain ⟨n0, n8⟩ := hn
  have hee : 1 ≤ ee ∧ ee ≤ 40000 := by unfold Ok at hk; omega
  obtain ⟨ee0, ee1⟩ := hee
  have HAT := Aside0.mk (fun (r x y e : Int) (W : World) (h1 : IsRf z W h lb n f s dl ks ee wd rh sl cp i M) (he : atF n i (2 * (n * s)) (rh + sl) M r t = (x, y, e)) => rat_any h lb n f s dl ks ee wd rh sl cp i r t x y e z W M h1 hMo hk he)
  have HI := Aside0.mk hI
  clear hI hMo hk
  have HA := Aside0.mk ha
  clear ha
  have hh0 := blk_lt HI.out.1
  have hl0 := blk_lt HI.out.2.1
  go_enter Try.func41, Try.ntmps41
  go_wp2
  go_loopw [5, 6] (fun v vi wr => ∃ (j : Nat) (L : List (Int × Int)) (A : Option Addr) (c : Nat), v = .slice A L.length c ∧ vi = .int .i64 j ∧ j ≤ n.toNat ∧ Aside0 (ro n i (2 * (n * s)) (rh + sl) M t j = L) ∧ Aside0 (wr.ownsRow w.heap.size 61 2 (.slice A L.length c) L.length (flat2 L)) ∧ Aside0 (IsRf z wr h lb n f s dl ks ee wd rh sl cp i M) ∧ Aside0 (Below w.heap.size w wr)) (fun _ vi _ => n.toNat - (intOf vi).toNat)
  case atStart => exact ⟨0, [], none, 0, rfl, rfl, Nat.zero_le _, ⟨rfl⟩, ⟨World.ownsRow_nil _ _ _ _⟩, HI, ⟨Below.refl _ _⟩⟩
  case round =>
    obtain ⟨j, L, A, c, rfl, rfl, hj, HL, O5, J5, B5⟩ := hrel
    have c0 : wr.cell? ⟨h, 0, none⟩ = some (.int .i64 n) := (blk_cell J5.out.1 0).trans rfl
    by_cases hlt : j < n.toNat
    · have hltb : decide ((j : Int) < n) = true := decide_eq_true (by omega)
      obtain ⟨x, y, e, he⟩ : ∃ x y e, atF n i (2 * (n * s)) (rh + sl) M (j : Nat) t = (x, y, e) := ⟨_, _, _, rfl⟩
      have HC := Aside0.mk (HAT.out _ x y e _ J5.out he)
      have HE := Aside0.mk he
      clear he
      have hul := ro_len n i (2 * (n * s)) (rh + sl) M t j
      rw [HL.out] at hul
      have HRO : Aside0 (ro n i (2 * (n * s)) (rh + sl) M t (j + 1) = if (j : Int) = i then L ++ [(0, 0)] else if e = 0 then L ++ [(x, y)] else L) := ⟨by
        show (if (j : Int) = i then _ else if (atF n i (2 * (n * s)) (rh + sl) M (j : Int) t).2.2 = 0 then _ else _) = _
        rw [HE.out, HL.out]⟩
      have J10 : Aside0 (∀ W, IsRf z W h lb n f s dl ks ee wd rh sl cp i M → W.cell? ⟨h, 10, none⟩ = some (.int .i64 i)) := ⟨fun W hW => (blk_cell hW.1 10).trans rfl⟩
      by_cases hji : (j : Int) = i
      · have hjb : ((j : Int) == i) = true := beq_iff_eq.2 hji
        have HS : Aside0 (ro n i (2 * (n * s)) (rh + sl) M t (j + 1) = L ++ [(0, 0)]) := ⟨by rw [HRO.out, if_pos hji]⟩
        clear hji
        go_wp2_with (first | (go_at_call 36; go_loud (refine (HC.out).mono ?_; rintro en w1 ⟨rfl, a1⟩; have J1 := Aside0.mk (J5.out.below a1); have B1 := Aside0.mk (below_step B5.out a1); have O1 := Aside0.mk (own_below O5.out a1); have g10 := J10.out _ J1.out; clear a1)) | (at_builtin; go_loud (refine wpList_append_own _ rfl _ _ 70 rfl w.heap.size 61 i0 (.agg #[.int .i64 0, .int .i64 0]) 2 16 Try.underlying70 hi hz0 hz1 hz2 rfl (by decide) _ _ _ rfl ((O1.out.alloc (.cells #[.int .i64 x, .int .i64 y] 61 (0, 0))).alloc _) ⟨w1.heap.size + 1, 0, none⟩ 1 1 [.int .i64 0, .int .i64 0] rfl rfl (fun q u hq => by have hh := cells_new (w1.alloc (.cells #[.int .i64 x, .int .i64 y] 61 (0, 0))) #[.int .i64 0, .int .i64 0] 61 q u hq; rw [World.size_alloc] at hh; exact hh) (by simp [Value.oneCell']) (by unfold maxLen; omega) (by omega) (by have := B1.out.size; simp; omega) ?_; intro v' w9 hown' hgrow _; obtain ⟨A9, c9, rfl⟩ := own_slice hown'; have O9 := Aside0.mk hown'; have G9 := Aside0.mk hgrow; clear hown' hgrow)))
        go_roundw
        case rel => exact ⟨j + 1, L ++ [(0, 0)], A9, c9, by rw [List.length_append]; rfl, by go_num, by omega, HS, ⟨by rw [List.length_append, flat2_snoc]; exact O9.out⟩, ⟨IsRf.app (IsRf.alloc J1.out _) (O1.out.alloc _) G9.out (by omega) (by omega)⟩, ⟨app_below (O1.out.alloc _) G9.out (below_alloc B1.out _) (Nat.le_refl _)⟩⟩
        case measure => simp [intOf]; omega
      · have hjb : ((j : Int) == i) = false := beq_eq_false_iff_ne.2 hji
        by_cases he0 : e = 0
        · subst he0
          have HS : Aside0 (ro n i (2 * (n * s)) (rh + sl) M t (j + 1) = L ++ [(x, y)]) := ⟨by rw [HRO.out, if_neg hji, if_pos rfl]⟩
          clear hji
          go_wp2_with (first | (go_at_call 36; go_loud (refine (HC.out).mono ?_; rintro en w1 ⟨rfl, a1⟩; have J1 := Aside0.mk (J5.out.below a1); have B1 := Aside0.mk (below_step B5.out a1); have O1 := Aside0.mk (own_below O5.out a1); have g10 := J10.out _ J1.out; clear a1)) | (at_builtin; go_loud (refine wpList_append_own _ rfl _ _ 70 rfl w.heap.size 61 i0 (.agg #[.int .i64 0, .int .i64 0]) 2 16 Try.underlying70 hi hz0 hz1 hz2 rfl (by decide) _ _ _ rfl ((O1.out.alloc (.cells #[.int .i64 x, .int .i64 y] 61 (0, 0))).alloc _) ⟨w1.heap.size + 1, 0, none⟩ 1 1 [.int .i64 x, .int .i64 y] rfl rfl (fun q u hq => by have hh := cells_new (w1.alloc (.cells #[.int .i64 x, .int .i64 y] 61 (0, 0))) #[.int .i64 x, .int .i64 y] 61 q u hq; rw [World.size_alloc] at hh; exact hh) (by simp [Value.oneCell']) (by unfold maxLen; omega) (by omega) (by have := B1.out.size; simp; omega) ?_; intro v' w9 hown' hgrow _; obtain ⟨A9, c9, rfl⟩ := own_slice hown'; have O9 := Aside0.mk hown'; have G9 := Aside0.mk hgrow; clear hown' hgrow)))
          go_roundw
          case rel => exact ⟨j + 1, L ++ [(x, y)], A9, c9, by rw [List.length_append]; rfl, by go_num, by omega, HS, ⟨by rw [List.length_append, flat2_snoc]; exact O9.out⟩, ⟨IsRf.app (IsRf.alloc J1.out _) (O1.out.alloc _) G9.out (by omega) (by omega)⟩, ⟨app_below (O1.out.alloc _) G9.out (below_alloc B1.out _) (Nat.le_refl _)⟩⟩
          case measure => simp [intOf]; omega
        · have heb : (e == 0) = false := beq_eq_false_iff_ne.2 he0
          have HS : Aside0 (ro n i (2 * (n * s)) (rh + sl) M t (j + 1) = L) := ⟨by rw [HRO.out, if_neg hji, if_neg he0]⟩
          clear he0 hji
          go_wp2_with (first | (go_at_call 36; go_loud (refine (HC.out).mono ?_; rintro en w1 ⟨rfl, a1⟩; have J1 := Aside0.mk (J5.out.below a1); have B1 := Aside0.mk (below_step B5.out a1); have O1 := Aside0.mk (own_below O5.out a1); have g10 := J10.out _ J1.out; clear a1)))
          go_roundw
          case rel => exact ⟨j + 1, L, A, c, rfl, by go_num, by omega, HS, ⟨O1.out.alloc _⟩, ⟨J1.out.alloc _⟩, ⟨below_alloc B1.out _⟩⟩
          case measure => simp [intOf]; omega
    · have hltb : decide ((j : Int) < n) = false := decide_eq_false (by omega)
      obtain rfl : j = n.toNat := by omega
      obtain rfl : l = L := HA.out.symm.trans HL.out
      go_wp2
      go_ret
      exact ⟨_, rfl, O5.out, B5.out⟩
end Go.Proofs.Ytfaikkhnlioajaa.Rs
end
section
namespace Go.Proofs.Ytfaikkhnlioajaa.Rt
open Go.RowKit Go.Proofs.YtfaikkhnlioajaaW.PrintWords Go.Proofs.YtfaikkhnlioajaaW.PrintLast Go.Proofs.YtfaikkhnlioajaaW.PrintMore 
attribute [local go_sem] max2_int min2_int max_two min_two max_three min_three max_four min_four
set_option linter.unusedVariables false
set_option linter.unusedSimpArgs false
open Go.Proofs.Ytfaikkhnlioajaa.QBase Go.Proofs.Ytfaikkhnlioajaa.Sch Go.Proofs.Ytfaikkhnlioajaa.Plc Go.Proofs.Ytfaikkhnlioajaa.Gd1 Go.Proofs.Ytfaikkhnlioajaa.Gd3 Go.Proofs.Ytfaikkhnlioajaa.Gd4 Go.Proofs.Ytfaikkhnlioajaa.BrP Go.Proofs.Ytfaikkhnlioajaa.Br1 Go.Proofs.Ytfaikkhnlioajaa.Br2 Go.Proofs.Ytfaikkhnlioajaa.Br4 Go.Proofs.Ytfaikkhnlioajaa.Ra Go.Proofs.Ytfaikkhnlioajaa.Rb Go.Proofs.Ytfaikkhnlioajaa.Rc Go.Proofs.Ytfaikkhnlioajaa.Re Go.Proofs.Ytfaikkhnlioajaa.Br5 Go.Proofs.Ytfaikkhnlioajaa.Br6 Go.Proofs.Ytfaikkhnlioajaa.Rp Go.Proofs.Ytfaikkhnlioajaa.Br7 Go.Proofs.Ytfaikkhnlioajaa.Br8 Go.Proofs.Ytfaikkhnlioajaa.Br9 Go.Proofs.Ytfaikkhnlioajaa.BrD Go.Proofs.Ytfaikkhnlioajaa.Rq Go.Proofs.Ytfaikkhnlioajaa.Rr Go.Proofs.Ytfaikkhnlioajaa.Rs Go.Proofs.Ytfaikkhnlioajaa.BrA Go.Maps
attribute [local go_sem] cellS1 frozenS1 cellS2 frozenS2 cellS3 frozenS3 cellS4 frozenS4 cellS5 frozenS5 cellS6 frozenS6

set_option maxRecDepth 100000 in
set_option maxHeartbeats 16000000 in
theorem plays_bad (A2 A3 A4 A5 : Option Addr) (c2 c3 c4 c5 : Nat) (l2 l3 : List Int) (n4 n5 : Nat) (x4 x5 : Nat → Nat → Int) (n f s dl ks ee wd rh sl cp i : Int) (w : World) (hq : ¬ (Ok n f s dl ks ee wd rh sl cp ∧ 0 ≤ i ∧ i < n)) : Calls Try.prog 8 #[.agg #[.int .i64 n, .int .i64 f, .int .i64 s, .int .i64 dl, .int .i64 ks, .int .i64 ee, .int .i64 wd, .int .i64 rh, .int .i64 sl, .int .i64 cp], .int .i64 i, .slice A2 l2.length c2, .slice A3 l3.length c3, .slice A4 n4 c4, .slice A5 n5 c5] w fun en w' => en = .returned (.bool true) ∧ Below w.heap.size w w' := by
  have HN := Aside0.mk hq
  clear hq
  go_enter Try.func8, Try.ntmps8
  go_wp2_with (first | (go_at_call 22; go_loud (refine (Br4.new_not n f s dl ks ee wd rh sl cp i _ HN.out).mono ?_; rintro en w1 ⟨rfl, hb⟩; have fb := blk_below (blk_new w (.cells #[.int .i64 n, .int .i64 f, .int .i64 s, .int .i64 dl, .int .i64 ks, .int .i64 ee, .int .i64 wd, .int .i64 rh, .int .i64 sl, .int .i64 cp] 23 (0, 0))) hb; have c0 : w1.cell? ⟨w.heap.size, 0, none⟩ = some (.int .i64 n) := (blk_cell fb 0).trans rfl; have c1 : w1.cell? ⟨w.heap.size, 1, none⟩ = some (.int .i64 f) := (blk_cell fb 1).trans rfl; have c2 : w1.cell? ⟨w.heap.size, 2, none⟩ = some (.int .i64 s) := (blk_cell fb 2).trans rfl; have c3 : w1.cell? ⟨w.heap.size, 3, none⟩ = some (.int .i64 dl) := (blk_cell fb 3).trans rfl; have c4 : w1.cell? ⟨w.heap.size, 4, none⟩ = some (.int .i64 ks) := (blk_cell fb 4).trans rfl; have c5 : w1.cell? ⟨w.heap.size, 5, none⟩ = some (.int .i64 ee) := (blk_cell fb 5).trans rfl; have c6 : w1.cell? ⟨w.heap.size, 6, none⟩ = some (.int .i64 wd) := (blk_cell fb 6).trans rfl; have c7 : w1.cell? ⟨w.heap.size, 7, none⟩ = some (.int .i64 rh) := (blk_cell fb 7).trans rfl; have c8 : w1.cell? ⟨w.heap.size, 8, none⟩ = some (.int .i64 sl) := (blk_cell fb 8).trans rfl; have c9 : w1.cell? ⟨w.heap.size, 9, none⟩ = some (.int .i64 cp) := (blk_cell fb 9).trans rfl; have HB1 := Aside0.mk (below_step (below_alloc (Below.refl _ _) (.cells #[.int .i64 n, .int .i64 f, .int .i64 s, .int .i64 dl, .int .i64 ks, .int .i64 ee, .int .i64 wd, .int .i64 rh, .int .i64 sl, .int .i64 cp] 23 (0, 0))) hb); clear hb fb)) | (go_at_call 32; go_loud (refine (rnew_not n f s dl ks ee wd rh sl cp i _ HN.out).mono ?_; rintro en w2 ⟨rfl, hb⟩; have HB2 := Aside0.mk (below_step HB1.out hb); clear hb)) | (go_at_call 24; go_loud (refine (BrA.awake_ok _).mono ?_; rintro en w8 ⟨rfl, hb8⟩; have B8 := Aside0.mk (below_step HB2.out hb8); clear hb8)))
  go_ret
  exact ⟨rfl, B8.out⟩

theorem rd_bd64 (l : List Int) (i : Int) (h : ∀ x ∈ l, (Lit.int .i64 x).wf = true) (h0 : 0 ≤ i) (h1 : i < l.length) : -9223372036854775808 ≤ rd l i ∧ rd l i ≤ 9223372036854775807 := by
  unfold rd
  have hi : i.toNat < l.length := by omega
  rw [List.getD_eq_getElem?_getD, List.getElem?_eq_getElem hi]
  exact bounds_i64 (h _ (List.getElem_mem hi))
theorem rd_bdu8 (l : List Int) (i : Int) (h : ∀ x ∈ l, (Lit.int .u8 x).wf = true) (h0 : 0 ≤ i) (h1 : i < l.length) : 0 ≤ rd l i ∧ rd l i ≤ 255 := by
  unfold rd
  have hi : i.toNat < l.length := by omega
  rw [List.getD_eq_getElem?_getD, List.getElem?_eq_getElem hi]
  exact bounds_u8 (h _ (List.getElem_mem hi))
theorem add_one (ad : Addr) (m : Nat) : ad.add (m + 1) = ⟨(ad.add m).block, (ad.add m).off + 1, none⟩ := by
  unfold Addr.add
  by_cases h : m = 0
  · subst h; simp
  · rw [if_neg (by omega), if_neg h]; simp only [Nat.add_assoc]
theorem cell_bel {w w' : World} (hb : Below w.heap.size w w') {a : Addr} {v : Value} (h : w.cell? a = some v) : w'.cell? a = some v := (hb.cell (World.block_lt_of_cell? w _ h)).trans h
theorem IsRf.cells {zz w w' : World} {h lb g : Nat} {n f s dl ks ee wd rh sl cp i : Int} {M M' : KM} {K : Nat} (hR : IsRf zz w h lb n f s dl ks ee wd rh sl cp i M) (hT : Tab zz w g n f s dl ks ee wd rh sl cp i M' K) (hc : CellsBut g w w') : IsRf zz w' h lb n f s dl ks ee wd rh sl cp i M := by
  obtain ⟨bm, k, h1, _⟩ := hT
  exact ⟨hc _ _ _ _ (blk_ne hR.1 h1.1 (by decide)) hR.1, hc _ _ _ _ (blk_ne hR.2.1 h1.1 (by decide)) hR.2.1, hR.2.2⟩
theorem Tab.ne {zz w : World} {g : Nat} {n f s dl ks ee wd rh sl cp i : Int} {M : KM} {K j : Nat} {cs : Array Value} {t : TypeId} (hT : Tab zz w g n f s dl ks ee wd rh sl cp i M K) (hj : w.heap[j]? = some (.cells cs t (0, 0))) (ht : t ≠ 102) : j ≠ g := by
  obtain ⟨bm, k, h1, _⟩ := hT
  exact blk_ne hj h1.1 ht
theorem Tab.grown {zz w w' : World} {g : Nat} {n f s dl ks ee wd rh sl cp i : Int} {M : KM} {K : Nat} {b : Nat} {cs : Array Value} {t : TypeId} (hT : Tab zz w g n f s dl ks ee wd rh sl cp i M K) (hg : w.grownBy w' (some b)) (hb : w.heap[b]? = some (.cells cs t (0, 0))) (ht : t ≠ 102) : Tab zz w' g n f s dl ks ee wd rh sl cp i M K := by
  obtain ⟨bm, k, h1, h2, h3, h4⟩ := hT
  refine ⟨bm, k, IsT.kept h1 hg (fun e => blk_ne h1.1 hb (fun e' => ht e'.symm) (by cases e; rfl)), ?_, h3, h4⟩
  obtain ⟨D, ⟨es, cl, q1, q2, q3, q4⟩, q5⟩ := h2
  refine KMap.same ⟨D, ⟨es, cl, q1, q2, q3, q4⟩, q5⟩ (hg.block bm (blk_lt q1) (fun e => ?_))
  cases e
  rw [hb] at q1
  cases q1
theorem rel_mk {zz W Wf : World} {g h lb bx : Nat} {n f s dl ks ee wd rh sl cp i : Int} {M : KM} {K : Nat} {cs : Array Value} {t : TypeId} (hb : Below W.heap.size W Wf) (T : Aside0 (Tab zz W g n f s dl ks ee wd rh sl cp i M K)) (R : Aside0 (IsRf zz W h lb n f s dl ks ee wd rh sl cp i M)) (B : Aside0 (Below zz.heap.size zz W)) (X : Aside0 (W.heap[bx]? = some (.cells cs t (0, 0)))) : Aside0 (Tab zz Wf g n f s dl ks ee wd rh sl cp i M K) ∧ Aside0 (IsRf zz Wf h lb n f s dl ks ee wd rh sl cp i M) ∧ Aside0 (Below zz.heap.size zz Wf) ∧ Aside0 (Wf.heap[bx]? = some (.cells cs t (0, 0))) :=
  ⟨⟨T.out.below hb⟩, ⟨R.out.below hb⟩, ⟨below_step B.out hb⟩, ⟨blk_below X.out hb⟩⟩
theorem own_max {W : World} {b m c size : Nat} {e : TypeId} {A : Option Addr} {xs : List Value} (h : W.ownsRow b e size (.slice A m c) m xs) : m ≤ maxLen := by
  rcases h.2 with ⟨e, h0⟩ | ⟨g, cap, cur, e, _, _, h1, h2, _⟩
  · rw [h0]; exact Nat.zero_le _
  · exact Nat.le_trans h1 h2
theorem own_slice2 {W : World} {b m size : Nat} {e : TypeId} {v : Value} {xs : List Value} (h : W.ownsRow b e size v m xs) : ∃ A c, v = .slice A m c := by
  rcases h.2 with ⟨e, h0⟩ | ⟨g, cap, cur, e, _⟩
  · exact ⟨none, 0, by rw [e, h0]⟩
  · exact ⟨_, _, e⟩
theorem row_at_ {W : World} {b m c size : Nat} {e : TypeId} {A : Option Addr} {xs : List Value} (h : W.ownsRow b e size (.slice A m c) m xs) (hm : 0 < m) : ∃ ad, A = some ad ∧ ∀ j v, j < m * size → xs[j]? = some v → W.cell? (ad.add j) = some v := by
  rcases h.2 with ⟨e, h0⟩ | ⟨g, cap, cur, e, _, hg, _, _, hs, ht⟩
  · omega
  · cases e
    refine ⟨_, rfl, fun j v hj hv => ?_⟩
    rw [← ht] at hv
    rw [List.getElem?_take_of_lt hj] at hv
    rw [show ((⟨g, 0, none⟩ : Addr).add j) = ⟨g, j, none⟩ by unfold Addr.add; split <;> simp_all, blk_cell hg]
    simpa using hv
theorem row_int {W : World} {b c d : Nat} {A : Option Addr} {l : List (Int × Int × Int)} (h : W.ownsRow b 3 1 (.slice A l.length c) l.length (freshV l)) (hd : d < l.length) : ∃ ad, A = some ad ∧ W.cell? (ad.add d) = some (.int .i64 (l[d]).1) := by
  obtain ⟨ad, e, hx⟩ := row_at_ h (by omega)
  refine ⟨ad, e, hx d _ (by omega) ?_⟩
  unfold freshV
  rw [List.getElem?_map, List.getElem?_eq_getElem hd]; rfl
theorem flat2_at (l : List (Int × Int)) (d : Nat) (hd : d < l.length) : (flat2 l)[d * 2]? = some (.int .i64 (l[d]).1) ∧ (flat2 l)[d * 2 + 1]? = some (.int .i64 (l[d]).2) := by
  induction l generalizing d with
  | nil => exact absurd hd (Nat.not_lt_zero _)
  | cons p l ih =>
    cases d with
    | zero => exact ⟨rfl, rfl⟩
    | succ d =>
      have := ih d (by simpa using hd)
      refine ⟨?_, ?_⟩
      · rw [show (d + 1) * 2 = d * 2 + 1 + 1 by omega]; exact this.1
      · rw [show (d + 1) * 2 + 1 = d * 2 + 1 + 1 + 1 by omega]; exact this.2
theorem row_two {W : World} {b c d : Nat} {A : Option Addr} {l : List (Int × Int)} (h : W.ownsRow b 61 2 (.slice A l.length c) l.length (flat2 l)) (hd : d < l.length) : ∃ ad, A = some ad ∧ W.cell? (ad.add (d * 2)) = some (.int .i64 (l[d]).1) ∧ W.cell? ⟨(ad.add (d * 2)).block, (ad.add (d * 2)).off + 1, none⟩ = some (.int .i64 (l[d]).2) := by
  obtain ⟨ad, e, hx⟩ := row_at_ h (by omega)
  have hf := flat2_at l d hd
  refine ⟨ad, e, hx _ _ (by omega) hf.1, ?_⟩
  have := hx _ _ (by omega) hf.2
  rw [add_one] at this
  exact this
theorem tab_offs (g : Nat) (n f s dl ks ee wd rh sl cp i : Int) (t : Int) (l : List (Int × Int)) (zz w : World) (M : KM) (K : Nat) (h : Tab zz w g n f s dl ks ee wd rh sl cp i M K) (hMo : KOk M) (hk : Ok n f s dl ks ee wd rh sl cp) (ha : offL i (upto n i (2 * (n * s)) (rh + sl) M t n.toNat) = l) : Calls Try.prog 40 #[.pointer (some ⟨g, 0, none⟩), .int .i64 t] w fun en w' => ∃ v, en = .returned v ∧ w'.ownsRow w.heap.size 61 2 v l.length (flat2 l) ∧ Below w.heap.size w w' := by
  obtain ⟨bm, k, h1, h2, h3, h4⟩ := h
  subst ha
  exact offsets_ok g bm n f s dl ks ee wd rh sl cp i k M t zz w h1 h2 hMo hk
theorem blk_ne_f {w : World} {j j' : Nat} {cs cs' : Array Value} {t t' : TypeId} (hj : w.heap[j]? = some (.cells cs t (0, 0))) (hj' : w.heap[j']? = some (.cells cs' t' (0, 0))) (ht : t ≠ t') (e : j = j') : False := blk_ne hj hj' ht e
theorem KOk.none : KOk (fun _ => none) := fun _ _ _ _ h => by cases h
end Go.Proofs.Ytfaikkhnlioajaa.Rt
end
