/- A table and all that it tells. -/
import Derived.Test.YtfaikkhnlioajaaProg
import Derived.Below
import Derived.Deep.Draws
import Derived.Deep.AppendLies
import Derived.Maps.AppendAt
import Derived.OwnWalk
import Derived.Laws.BytesArg
import Derived.Laws.MakeOwn
import Derived.Laws.OwnMore
import Derived.Deep.OwnRows
import Derived.Tactics
import Derived.Lib.ConvBytes
import Derived.Laws.Slices
import Derived.WalkKit
import Derived.KernelRfl
import Derived.RowKit3
import Derived.Deep.LoopGhost
import Derived.Deep.QuietTactic
import Derived.BigQuiet
import Derived.WideLaws
import Derived.Deep.DeepCutAuto
import Derived.Deep.CutBlock
import Derived.Deep.RegionHeld3
import Derived.Laws.Rows
import Derived.Lib.AppendStr
import Derived.ArgAppend
import Derived.Laws.IdiomCopy
import Derived.OrdersHeld
import Derived.Laws.BitsLemmas
import Derived.RowKit
import Derived.RegionTactic
import Derived.ChangeAlike
import Derived.Outline
import Derived.LoopTactic
import Derived.WalkSpells
import Derived.WalkLawsBesides
import Derived.Lib.Hide
import Derived.StillTailTactics
import Derived.Deep.RegionWith
import Derived.Deep.RegionLaw
import Derived.Deep.DeepFit
import Derived.Deep.DeepMust
import Derived.Test.YtfaikkhnlioajaaWWords
import Derived.Test.YtfaikkhnlioajaaWLast
import Derived.Test.YtfaikkhnlioajaaWTab
import Derived.Test.YtfaikkhnlioajaaWFour
import Derived.Test.YtfaikkhnlioajaaWQPut
import Derived.Test.YtfaikkhnlioajaaWApart
import Derived.Test.YtfaikkhnlioajaaWArr
import Derived.Test.YtfaikkhnlioajaaWZeros
import Derived.Test.YtfaikkhnlioajaaWFoot
import Derived.Test.YtfaikkhnlioajaaWKept
import Derived.Test.YtfaikkhnlioajaaWShare
import Derived.Test.YtfaikkhnlioajaaWN
import Derived.Test.YtfaikkhnlioajaaWFootNe
import Derived.Test.YtfaikkhnlioajaaWAt
import Derived.Test.YtfaikkhnlioajaaWEqStruct
import Derived.Test.YtfaikkhnlioajaaWRepsOne
import Derived.Test.YtfaikkhnlioajaaWInv
import Derived.Test.YtfaikkhnlioajaaWInvWords
import Derived.Test.YtfaikkhnlioajaaWGuard
import Derived.Test.YtfaikkhnlioajaaWNEv
import Derived.Test.YtfaikkhnlioajaaWMore
import Derived.Test.YtfaikkhnlioajaaBr9
import Derived.Test.YtfaikkhnlioajaaZI
import Derived.Test.YtfaikkhnlioajaaZS
namespace Go.Proofs.Ytfaikkhnlioajaa.BrA
open Go.RowKit Go.Proofs.YtfaikkhnlioajaaW.PrintWords Go.Proofs.YtfaikkhnlioajaaW.PrintLast Go.Proofs.YtfaikkhnlioajaaW.PrintMore 
attribute [local go_sem] max2_int min2_int max_two min_two max_three min_three max_four min_four
set_option linter.unusedVariables false
set_option linter.unusedSimpArgs false
open Go.Proofs.Ytfaikkhnlioajaa.QBase Go.Proofs.Ytfaikkhnlioajaa.Sch Go.Proofs.Ytfaikkhnlioajaa.Plc Go.Proofs.Ytfaikkhnlioajaa.Gd1 Go.Proofs.Ytfaikkhnlioajaa.Gd2 Go.Proofs.Ytfaikkhnlioajaa.Gd3 Go.Proofs.Ytfaikkhnlioajaa.Gd4 Go.Proofs.Ytfaikkhnlioajaa.BrP Go.Proofs.Ytfaikkhnlioajaa.Br1 Go.Proofs.Ytfaikkhnlioajaa.Br2 Go.Proofs.Ytfaikkhnlioajaa.Br3 Go.Proofs.Ytfaikkhnlioajaa.Br4 Go.Proofs.Ytfaikkhnlioajaa.Br5 Go.Proofs.Ytfaikkhnlioajaa.Br6 Go.Proofs.Ytfaikkhnlioajaa.Br7 Go.Proofs.Ytfaikkhnlioajaa.Br8 Go.Proofs.Ytfaikkhnlioajaa.Br9 Go.Maps
attribute [local go_sem] cellS1 frozenS1 cellS2 frozenS2 cellS3 frozenS3 cellS4 frozenS4 cellS5 frozenS5 cellS6 frozenS6
open Go.Shelf
attribute [local go_sem] Oper.semAt_some

/-- All cells but block g's lie as they lay. -/
def CellsBut (g : Nat) (w w' : World) : Prop := ∀ j cs t fr, j ≠ g → w.heap[j]? = some (.cells cs t fr) → w'.heap[j]? = some (.cells cs t fr)
theorem CellsBut.of_below {g : Nat} {w w' : World} (h : Below w.heap.size w w') : CellsBut g w w' := fun j cs t fr _ hj => (h.block j (blk_lt hj)).trans hj
/-- A table in memory that knows M. -/
def Tab (z w : World) (g : Nat) (n f s dl ks ee wd rh sl cp i : Int) (M : KM) (K : Nat) : Prop := ∃ bm k, IsT z w g bm n f s dl ks ee wd rh sl cp i ∧ KMap w bm k M ∧ z.heap.size ≤ bm ∧ k ≤ K
theorem Tab.below {z w w' : World} {g : Nat} {n f s dl ks ee wd rh sl cp i : Int} {M : KM} {K : Nat} (h : Tab z w g n f s dl ks ee wd rh sl cp i M K) (hb : Below w.heap.size w w') : Tab z w' g n f s dl ks ee wd rh sl cp i M K := by
  obtain ⟨bm, k, h1, h2, h3, h4⟩ := h
  exact ⟨bm, k, IsT.below h1 hb, KMap.below h2 hb, h3, h4⟩
theorem Tab.alloc {z w : World} {g : Nat} {n f s dl ks ee wd rh sl cp i : Int} {M : KM} {K : Nat} (h : Tab z w g n f s dl ks ee wd rh sl cp i M K) (o : Obj) : Tab z (w.alloc o) g n f s dl ks ee wd rh sl cp i M K := h.below (below_alloc (Below.refl _ _) o)
theorem Tab.drewN {z w : World} {g : Nat} {n f s dl ks ee wd rh sl cp i : Int} {M : KM} {K : Nat} (h : Tab z w g n f s dl ks ee wd rh sl cp i M K) (m : Nat) : Tab z (w.drewN m) g n f s dl ks ee wd rh sl cp i M K := h
theorem Tab.mono {z w : World} {g : Nat} {n f s dl ks ee wd rh sl cp i : Int} {M : KM} {K L : Nat} (h : Tab z w g n f s dl ks ee wd rh sl cp i M K) (hl : K ≤ L) : Tab z w g n f s dl ks ee wd rh sl cp i M L := by
  obtain ⟨bm, k, h1, h2, h3, h4⟩ := h
  exact ⟨bm, k, h1, h2, h3, Nat.le_trans h4 hl⟩
theorem tab_new (n f s dl ks ee wd rh sl cp i : Int) (w : World) (hk : Ok n f s dl ks ee wd rh sl cp) (i0 : 0 ≤ i) (i1 : i < n) : Calls Try.prog 22 #[.agg #[.int .i64 n, .int .i64 f, .int .i64 s, .int .i64 dl, .int .i64 ks, .int .i64 ee, .int .i64 wd, .int .i64 rh, .int .i64 sl, .int .i64 cp], .int .i64 i] w fun en w' => ∃ g, en = .returned (.tuple #[.pointer (some ⟨g, 0, none⟩), .int .i64 0]) ∧ Tab w w' g n f s dl ks ee wd rh sl cp i (fun _ => none) 0 ∧ Below w.heap.size w w' :=
  (Br4.new_yes n f s dl ks ee wd rh sl cp i w hk i0 i1).mono fun en w' ⟨g, bm, h1, h2, h3, h4, h5⟩ => ⟨g, h1, ⟨bm, 0, h2, KMap.made h3, h4, Nat.le_refl _⟩, h5⟩
theorem tab_at (g : Nat) (n f s dl ks ee wd rh sl cp i : Int) (r t x y e : Int) (z w : World) (M : KM) (K : Nat) (h : Tab z w g n f s dl ks ee wd rh sl cp i M K) (hMo : KOk M) (hk : Ok n f s dl ks ee wd rh sl cp) (ha : atF n i (2 * (n * s)) (rh + sl) M r t = (x, y, e)) : Calls Try.prog 26 #[.pointer (some ⟨g, 0, none⟩), .int .i64 r, .int .i64 t] w fun en w' => en = .returned (.tuple #[.agg #[.int .i64 x, .int .i64 y], .int .i64 e]) ∧ Below w.heap.size w w' := by
  obtain ⟨bm, k, h1, h2, h3, h4⟩ := h
  exact at_any g bm n f s dl ks ee wd rh sl cp i r t x y e z w h1 k M h2 hMo hk ha
theorem tab_most (g : Nat) (n f s dl ks ee wd rh sl cp i : Int) (r t x y e p q : Int) (z w : World) (M : KM) (K : Nat) (h : Tab z w g n f s dl ks ee wd rh sl cp i M K) (hMo : KOk M) (hk : Ok n f s dl ks ee wd rh sl cp) (ha : atF n i (2 * (n * s)) (rh + sl) M r t = (x, y, e)) (hq : mostF (x, y, e) t = (p, q)) : Calls Try.prog 27 #[.pointer (some ⟨g, 0, none⟩), .int .i64 r, .int .i64 t] w fun en w' => en = .returned (.tuple #[.int .i64 p, .int .i64 q]) ∧ Below w.heap.size w w' := by
  obtain ⟨bm, k, h1, h2, h3, h4⟩ := h
  exact most_any g bm n f s dl ks ee wd rh sl cp i r t x y e p q z w h1 k M h2 hMo hk ha hq
theorem tab_near (g : Nat) (n f s dl ks ee wd rh sl cp i : Int) (t a : Int) (z w : World) (M : KM) (K : Nat) (h : Tab z w g n f s dl ks ee wd rh sl cp i M K) (hMo : KOk M) (hk : Ok n f s dl ks ee wd rh sl cp) (ha : nearL ee (upto n i (2 * (n * s)) (rh + sl) M t n.toNat) = a) : Calls Try.prog 30 #[.pointer (some ⟨g, 0, none⟩), .int .i64 t] w fun en w' => en = .returned (.int .i64 a) ∧ Below w.heap.size w w' := by
  obtain ⟨bm, k, h1, h2, h3, h4⟩ := h
  subst ha
  exact near_ok g bm n f s dl ks ee wd rh sl cp i k M t z w h1 h2 hMo hk
theorem tab_fresh (g : Nat) (n f s dl ks ee wd rh sl cp i : Int) (t : Int) (l : List (Int × Int × Int)) (z w : World) (M : KM) (K : Nat) (h : Tab z w g n f s dl ks ee wd rh sl cp i M K) (hMo : KOk M) (hk : Ok n f s dl ks ee wd rh sl cp) (ha : upto n i (2 * (n * s)) (rh + sl) M t n.toNat = l) : Calls Try.prog 31 #[.pointer (some ⟨g, 0, none⟩), .int .i64 t] w fun en w' => ∃ v, en = .returned v ∧ w'.ownsRow w.heap.size 3 1 v l.length (freshV l) ∧ Below w.heap.size w w' := by
  obtain ⟨bm, k, h1, h2, h3, h4⟩ := h
  subst ha
  exact fresh_ok g bm n f s dl ks ee wd rh sl cp i k M t z w h1 h2 hMo hk
theorem tab_put (g : Nat) (n f s dl ks ee wd rh sl cp i : Int) (r lo hi t a : Int) (M' : KM) (z w : World) (M : KM) (K : Nat) (h : Tab z w g n f s dl ks ee wd rh sl cp i M K) (hB : Below z.heap.size z w) (hMo : KOk M) (hK : K ≤ 100000) (hk : Ok n f s dl ks ee wd rh sl cp) (hp : putF n i (2 * (n * s)) (rh + sl) M r lo hi t = (a, M')) : Calls Try.prog 25 #[.pointer (some ⟨g, 0, none⟩), .int .i64 r, .agg #[.int .i64 lo, .int .i64 hi], .int .i64 t] w fun en w' => en = .returned (.int .i64 a) ∧ Tab z w' g n f s dl ks ee wd rh sl cp i M' (K + 1) ∧ Below z.heap.size z w' ∧ CellsBut g w w' := by
  obtain ⟨bm, k, h1, h2, h3, h4⟩ := h
  refine (put_any g bm n f s dl ks ee wd rh sl cp i r lo hi t z w h1 k M h2 hMo hB (by omega) hk).mono ?_
  rw [hp]
  rintro en w' ⟨e1, e2, e3⟩
  refine ⟨e1, ⟨bm, k + 1, IsT.kept h1 e3 (fun e => KMap.ne h2 h1.1 (by cases e; rfl)), e2, h3, by omega⟩, hB.grown e3 hB.size (fun j e => by cases e; exact h3), fun j cs t' fr hne hj => ?_⟩
  refine (e3.block j (blk_lt hj) (fun e => ?_)).trans hj
  cases e
  obtain ⟨D, ⟨es, cl, q1, q2, q3, q4⟩, q5⟩ := h2
  rw [hj] at q1
  cases q1
theorem tab_clear (g : Nat) (n f s dl ks ee wd rh sl cp i : Int) (z w : World) (M : KM) (K : Nat) (h : Tab z w g n f s dl ks ee wd rh sl cp i M K) (hB : Below z.heap.size z w) : Calls Try.prog 33 #[.pointer (some ⟨g, 0, none⟩)] w fun en w' => en = .returned (.tuple #[]) ∧ Tab z w' g n f s dl ks ee wd rh sl cp i (fun _ => none) 0 ∧ Below z.heap.size z w' ∧ CellsBut g w w' := by
  obtain ⟨bm, k, h1, h2, h3, h4⟩ := h
  refine (clear_ok g bm n f s dl ks ee wd rh sl cp i z w h1 hB).mono ?_
  rintro en w' ⟨b', e1, e2, e3, e4, e5, e6⟩
  exact ⟨e1, ⟨b', 0, e2, e3, e4, Nat.le_refl _⟩, e5, fun j cs t' fr hne hj => (e6.block j (blk_lt hj) (fun e => hne (by cases e; rfl))).trans hj⟩
theorem usual_ok : Ok 3 0 400 1 16 400 400 1 2 8 := by unfold Ok; omega
set_option maxRecDepth 100000 in
set_option maxHeartbeats 4000000 in
theorem awake_ok (w : World) : Calls Try.prog 24 #[] w fun en w' => en = .returned (.bool true) ∧ Below w.heap.size w w' := by
  have HK := Aside0.mk usual_ok
  obtain ⟨M', hM'⟩ : ∃ M', (fun v => if v = 1 then some (newF (atF 3 0 (2 * (3 * 400)) (1 + 2) (fun _ => none) 1 0) (-5) 6 0) else none : KM) = M' := ⟨_, rfl⟩
  have HP : Aside0 (putF 3 0 (2 * (3 * 400)) (1 + 2) (fun _ => none) 1 (-5) 6 0 = (0, M')) := ⟨by rw [← hM']; unfold putF; rw [if_pos (by decide), if_pos (by unfold R; omega), if_neg (by decide)]⟩
  have HO : Aside0 (KOk M') := ⟨by have := putF_ok 3 0 (2 * (3 * 400)) (1 + 2) (fun _ => none) 1 (-5) 6 0 (fun _ _ _ _ h => by cases h); rw [HP.out] at this; exact this⟩
  have HN : Aside0 (nearL 400 (upto 3 0 (2 * (3 * 400)) (1 + 2) M' 0 (3 : Int).toNat) = 2) := ⟨by rw [← hM']; decide +kernel⟩
  clear hM'
  go_enter Try.func24, Try.ntmps24
  go_wp2_with (first | (go_at_call 23; go_loud (refine (carillonlaw24_usual.calls 3 0 400 1 16 400 400 1 2 8 _ rfl).mono ?_; rintro en w1 ⟨rfl, hb1⟩; have HB1 := Aside0.mk hb1; clear hb1)) | (go_at_call 22; go_loud (refine (tab_new 3 0 400 1 16 400 400 1 2 8 0 _ HK.out (by omega) (by omega)).mono ?_; rintro en w2 ⟨g, rfl, a1, a2⟩; have T2 := Aside0.mk a1; have B2 := Aside0.mk a2; clear a1 a2)) | (go_at_call 25; go_loud (refine (tab_put g 3 0 400 1 16 400 400 1 2 8 0 1 (-5) 6 0 0 M' _ _ (fun _ => none) 0 T2.out B2.out (fun _ _ _ _ h => by cases h) (by omega) HK.out HP.out).mono ?_; rintro en w3 ⟨rfl, a1, a2, a3⟩; have T3 := Aside0.mk a1; have B3 := Aside0.mk a2; clear a1 a2 a3)) | (go_at_call 30; go_loud (refine (tab_near g 3 0 400 1 16 400 400 1 2 8 0 0 2 _ _ M' 1 T3.out HO.out HK.out HN.out).mono ?_; rintro en w4 ⟨rfl, a1⟩; have B4 := Aside0.mk (below_step B3.out a1); clear a1)))
  go_ret
  exact ⟨rfl, HB1.out.trans (B4.out.mono HB1.out.size)⟩
end Go.Proofs.Ytfaikkhnlioajaa.BrA
