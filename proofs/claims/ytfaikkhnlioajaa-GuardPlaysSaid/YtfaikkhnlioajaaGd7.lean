/- What the reference guard lets through. -/
import Derived.Test.YtfaikkhnlioajaaProg
import Derived.Below
import Derived.Deep.Draws
import Derived.Deep.AppendLies
import Derived.Maps.AppendAt
import Derived.OwnWalk
import Derived.Laws.BytesArg
import Derived.Laws.MakeOwn
import Derived.Laws.OwnMore
import Derived.Deep.OwnRows
import Derived.Tactics
import Derived.Lib.ConvBytes
import Derived.Laws.Slices
import Derived.WalkKit
import Derived.KernelRfl
import Derived.RowKit3
import Derived.Deep.LoopGhost
import Derived.Deep.QuietTactic
import Derived.BigQuiet
import Derived.WideLaws
import Derived.Deep.DeepCutAuto
import Derived.Deep.CutBlock
import Derived.Deep.RegionHeld3
import Derived.Laws.Rows
import Derived.Lib.AppendStr
import Derived.ArgAppend
import Derived.Laws.IdiomCopy
import Derived.OrdersHeld
import Derived.Laws.BitsLemmas
import Derived.RowKit
import Derived.RegionTactic
import Derived.ChangeAlike
import Derived.Outline
import Derived.LoopTactic
import Derived.WalkSpells
import Derived.WalkLawsBesides
import Derived.Lib.Hide
import Derived.StillTailTactics
import Derived.Deep.RegionWith
import Derived.Deep.RegionLaw
import Derived.Deep.DeepFit
import Derived.Deep.DeepMust
import Derived.Test.YtfaikkhnlioajaaWWords
import Derived.Test.YtfaikkhnlioajaaWLast
import Derived.Test.YtfaikkhnlioajaaWTab
import Derived.Test.YtfaikkhnlioajaaWFour
import Derived.Test.YtfaikkhnlioajaaWQPut
import Derived.Test.YtfaikkhnlioajaaWApart
import Derived.Test.YtfaikkhnlioajaaWArr
import Derived.Test.YtfaikkhnlioajaaWZeros
import Derived.Test.YtfaikkhnlioajaaWFoot
import Derived.Test.YtfaikkhnlioajaaWKept
import Derived.Test.YtfaikkhnlioajaaWShare
import Derived.Test.YtfaikkhnlioajaaWN
import Derived.Test.YtfaikkhnlioajaaWFootNe
import Derived.Test.YtfaikkhnlioajaaWAt
import Derived.Test.YtfaikkhnlioajaaWEqStruct
import Derived.Test.YtfaikkhnlioajaaWRepsOne
import Derived.Test.YtfaikkhnlioajaaWInv
import Derived.Test.YtfaikkhnlioajaaWInvWords
import Derived.Test.YtfaikkhnlioajaaWGuard
import Derived.Test.YtfaikkhnlioajaaWNEv
import Derived.Test.YtfaikkhnlioajaaWMore
import Derived.Test.YtfaikkhnlioajaaGd6
import Derived.Maps.AppendAt
namespace Go.Proofs.Ytfaikkhnlioajaa.Gd7
open Go.RowKit Go.Proofs.YtfaikkhnlioajaaW.PrintWords Go.Proofs.YtfaikkhnlioajaaW.PrintLast Go.Proofs.YtfaikkhnlioajaaW.PrintMore 
attribute [local go_sem] max2_int min2_int max_two min_two max_three min_three max_four min_four
set_option linter.unusedVariables false
set_option linter.unusedSimpArgs false
open Go.Proofs.Ytfaikkhnlioajaa.QBase Go.Proofs.Ytfaikkhnlioajaa.Sch Go.Proofs.Ytfaikkhnlioajaa.Plc Go.Proofs.Ytfaikkhnlioajaa.Gd1 Go.Proofs.Ytfaikkhnlioajaa.Gd2 Go.Proofs.Ytfaikkhnlioajaa.Gd3 Go.Proofs.Ytfaikkhnlioajaa.Gd4 Go.Proofs.Ytfaikkhnlioajaa.Gd5 Go.Proofs.Ytfaikkhnlioajaa.Gd6 Go.Maps
attribute [local go_sem] cellS1 frozenS1 cellS2 frozenS2 cellS3 frozenS3 cellS4 frozenS4
theorem rows_at {w : World} {b : Nat} {A : Option Addr} {c : Nat} {L : List Int} (h : w.ownsRow b 3 1 (.slice A L.length c) L.length (L.map (Value.int .i64))) (k : Nat) (hk : k < L.length) : ∃ ad, A = some ad ∧ w.cell? (ad.add k) = some (.int .i64 (L.getD k 0)) := by
  obtain ⟨g, cap, e⟩ := Go.Joins.ownsRow_form h (by omega)
  cases e
  refine ⟨_, rfl, h.cells (g := g) rfl k _ ?_⟩
  rw [List.getElem?_map, List.getElem?_eq_getElem hk, List.getD_eq_getElem?_getD, List.getElem?_eq_getElem hk]; rfl
theorem rd_in (L : List Int) (k : Nat) (hk : k < L.length) (h : ∀ x ∈ L, 0 ≤ x ∧ x ≤ 1048575) : 0 ≤ L.getD k 0 ∧ L.getD k 0 ≤ 1048575 := by
  rw [List.getD_eq_getElem?_getD, List.getElem?_eq_getElem hk]; exact h _ (List.getElem_mem hk)
theorem count_snoc (L : List Int) (r : Int) (k : Nat) (hk : k < L.length) : (L.take (k + 1)).count r = (L.take k).count r + (if L.getD k 0 = r then 1 else 0) := by
  rw [List.take_succ_eq_append_getElem hk, List.count_append, List.getD_eq_getElem?_getD, List.getElem?_eq_getElem hk]
  show _ + List.count r [L[k]] = _ + (if L[k] = r then 1 else 0)
  rw [List.count_singleton]
  by_cases e : L[k] = r <;> simp [e]
def flt (r : Int) (l : List Int) : List Int := l.filter fun x => decide (r - 64 ≤ x)
theorem flt_snoc (L : List Int) (r : Int) (k : Nat) (hk : k < L.length) : flt r (L.take (k + 1)) = flt r (L.take k) ++ (if r - 64 ≤ L.getD k 0 then [L.getD k 0] else []) := by
  unfold flt
  rw [List.take_succ_eq_append_getElem hk, List.filter_append, List.getD_eq_getElem?_getD, List.getElem?_eq_getElem hk]
  show _ ++ List.filter _ [L[k]] = _ ++ (if r - 64 ≤ L[k] then [L[k]] else [])
  by_cases e : r - 64 ≤ L[k] <;> simp [e]
theorem flt_len (r : Int) (L : List Int) (k : Nat) : (flt r (L.take k)).length ≤ L.length := Nat.le_trans (List.length_filter_le _ _) (by simp; omega)
theorem own_ne {w : World} {b bx : Nat} {v vl : Value} {n : Nat} {xs : List Value} (h : w.ownsRow b 3 1 v n xs) (hv : ∀ j, vl.ownBlock = some j → bx + 1 ≤ j) (hlt : ∀ j, v.ownBlock = some j → j ≤ bx) : v.ownBlock = none ∨ v.ownBlock ≠ vl.ownBlock := by
  cases hb : v.ownBlock with
  | none => exact Or.inl rfl
  | some j => exact Or.inr (fun e => by have a := hv j e.symm; have b := hlt j hb; omega)
theorem keep_grown {w w1 w2 : World} {h : Nat} {row : Option Nat} (k : KeepBut w w1 h none) (g : w1.grownBy w2 row) (hr : ∀ j, row = some j → w.heap.size ≤ j) : KeepBut w w2 h none :=
  ⟨Nat.le_trans k.1 g.size, fun i hi hs hn => (g.block i (Nat.lt_of_lt_of_le hi k.1) (fun e => by have := hr i e.symm; omega)).trans (k.2 i hi hs hn)⟩
theorem info3 : (Try.prog.info? 3).map (fun i => (i.zero, i.size, i.bytes)) = some (some (.int .i64 0), 1, 8) := by kernel_rfl
theorem grown_below {w w' : World} (hb : Below w.heap.size w w') : w.grownBy w' none := ⟨hb.os, hb.tape, hb.output, hb.size, fun i hi _ => hb.block i hi⟩
set_option maxRecDepth 100000 in
set_option maxHeartbeats 8000000 in
theorem rother_full (h : Nat) (n f s dl ks ee wd rh sl cp i la le : Int) (A : Option Addr) (c : Nat) (L : List Int) (t r p o : Int) (z w : World) (hI : IsR z w h n f s dl ks ee wd rh sl cp i la le A L.length c) (hB : Below z.heap.size z w) (hO : w.ownsRow z.heap.size 3 1 (.slice A L.length c) L.length (L.map (Value.int .i64))) (hLn : L.length ≤ 1000) (hL2 : ∀ x ∈ L, 0 ≤ x ∧ x ≤ 1048575) (hk : Ok n f s dl ks ee wd rh sl cp) (hp : carillonref16_Place.f 1 n f s dl ks ee wd rh sl cp t = some (r, p, o, 0)) (r0 : 0 ≤ r) (r1 : r ≤ 1048575) (hf : 4 * n ≤ (L.count r : Nat)) : Calls Try.prog 19 #[.pointer (some ⟨h, 0, none⟩), .int .i64 t] w fun en w' => en = .returned (.int .i64 9) ∧ IsR z w' h n f s dl ks ee wd rh sl cp i la le A L.length c ∧ w'.ownsRow z.heap.size 3 1 (.slice A L.length c) L.length (L.map (Value.int .i64)) ∧ Below z.heap.size z w' ∧ KeepBut w w' h none := by
  have c0 : w.cell? ⟨h, 0, none⟩ = some (.int .i64 n) := (blk_cell hI.1 0).trans rfl
  have c1 : w.cell? ⟨h, 1, none⟩ = some (.int .i64 f) := (blk_cell hI.1 1).trans rfl
  have c2 : w.cell? ⟨h, 2, none⟩ = some (.int .i64 s) := (blk_cell hI.1 2).trans rfl
  have c3 : w.cell? ⟨h, 3, none⟩ = some (.int .i64 dl) := (blk_cell hI.1 3).trans rfl
  have c4 : w.cell? ⟨h, 4, none⟩ = some (.int .i64 ks) := (blk_cell hI.1 4).trans rfl
  have c5 : w.cell? ⟨h, 5, none⟩ = some (.int .i64 ee) := (blk_cell hI.1 5).trans rfl
  have c6 : w.cell? ⟨h, 6, none⟩ = some (.int .i64 wd) := (blk_cell hI.1 6).trans rfl
  have c7 : w.cell? ⟨h, 7, none⟩ = some (.int .i64 rh) := (blk_cell hI.1 7).trans rfl
  have c8 : w.cell? ⟨h, 8, none⟩ = some (.int .i64 sl) := (blk_cell hI.1 8).trans rfl
  have c9 : w.cell? ⟨h, 9, none⟩ = some (.int .i64 cp) := (blk_cell hI.1 9).trans rfl
  have hn : 1 ≤ n ∧ n ≤ 8 := by unfold Ok at hk; omega
  obtain ⟨n0, n1⟩ := hn
  have hgs : h < w.heap.size := blk_lt hI.1
  have hhz : z.heap.size ≤ h := hI.2
  have HI := Aside0.mk hI
  have HB := Aside0.mk hB
  have HP := Aside0.mk hp
  have HO := Aside0.mk hO
  have HL2 := Aside0.mk hL2
  clear hI hB hp hO hL2 hk
  go_enter Try.func19, Try.ntmps19
  go_upto_region 4 with (first | (go_at_call 52; go_loud (refine (carillonref16_Place.calls 1 n f s dl ks ee wd rh sl cp t r p o 0 _ HP.out).mono ?_; rintro en w2 ⟨rfl, hb⟩; have I2 : Aside0 (IsR z w2 h n f s dl ks ee wd rh sl cp i la le A L.length c) := ⟨blk_below HI.out.1 hb, HI.out.2⟩; have B2 := Aside0.mk (below_step HB.out hb); have K2 := Aside0.mk (KeepBut.of_below hb h none); have hs2 : h < w2.heap.size := Nat.lt_of_lt_of_le hgs hb.size; have k0 : w2.cell? ⟨h, 0, none⟩ = some (.int .i64 n) := (blk_cell I2.out.1 0).trans rfl; have k10 : w2.cell? ⟨h, 10, none⟩ = some (.int .i64 i) := (blk_cell I2.out.1 10).trans rfl; have k11 : w2.cell? ⟨h, 11, none⟩ = some (.int .i64 la) := (blk_cell I2.out.1 11).trans rfl; have k12 : w2.cell? ⟨h, 12, none⟩ = some (.int .i64 le) := (blk_cell I2.out.1 12).trans rfl; have k13 : w2.cell? ⟨h, 13, none⟩ = some (.slice A L.length c) := (blk_cell I2.out.1 13).trans rfl; have fz11 : w2.frozen? ⟨h, 11, none⟩ = false := blk_frozen I2.out.1 11; have fz13 : w2.frozen? ⟨h, 13, none⟩ = false := blk_frozen I2.out.1 13; have O2 : Aside0 (w2.ownsRow z.heap.size 3 1 (.slice A L.length c) L.length (L.map (Value.int .i64))) := ⟨HO.out.kept (grown_below hb) (by cases (Value.slice A L.length c).ownBlock <;> simp)⟩; clear hb)))
  refine wp_gen (fun W => ∃ bx, bx = w2.heap.size ∧ W.heap.size = bx + 1 ∧ Aside0 (IsR z W h n f s dl ks ee wd rh sl cp i la le A L.length c) ∧ Aside0 (W.ownsRow z.heap.size 3 1 (.slice A L.length c) L.length (L.map (Value.int .i64))) ∧ Aside0 (W.heap[bx]? = some (.cells #[.int .i64 r, .int .i64 p, .int .i64 o] 33 (0, 0))) ∧ Aside0 (Below z.heap.size z W) ∧ Aside0 (KeepBut w W h none)) ⟨_, rfl, by simp, ⟨I2.out.alloc _⟩, ⟨O2.out.alloc _⟩, ⟨blk_new _ _⟩, ⟨below_alloc B2.out _⟩, ⟨keep_alloc K2.out _⟩⟩ ?_
  rintro W ⟨bx, hbx, hW, J1, J2, J3, J4, J5⟩
  have HAB : Aside0 (∀ j, (Value.slice A L.length c).ownBlock = some j → j ≤ bx) := ⟨fun j hj => by have := (HO.out.lt j hj).2; have := K2.out.1; omega⟩
  have hb2 : w.heap.size ≤ bx := by rw [hbx]; exact K2.out.1
  rw [← hbx]
  clear I2 B2 K2 O2 hs2 k0 k10 k11 k12 k13 fz11 fz13 HI HB HO c0 c1 c2 c3 c4 c5 c6 c7 c8 c9 hbx
  go_wp2
  go_loopw [7, 8] (fun vn vi wr => ∃ k : Nat, k ≤ L.length ∧ vi = .int .i64 k ∧ vn = .int .i64 ((L.take k).count r : Nat) ∧ Aside0 (IsR z wr h n f s dl ks ee wd rh sl cp i la le A L.length c) ∧ Aside0 (wr.ownsRow z.heap.size 3 1 (.slice A L.length c) L.length (L.map (Value.int .i64))) ∧ Aside0 (wr.heap[bx]? = some (.cells #[.int .i64 r, .int .i64 p, .int .i64 o] 33 (0, 0))) ∧ Aside0 (Below z.heap.size z wr) ∧ Aside0 (KeepBut w wr h none)) (fun _ vi _ => L.length - (intOf vi).toNat)
  case atStart => exact ⟨0, Nat.zero_le _, rfl, rfl, J1, J2, J3, J4, J5⟩
  case round =>
    clear J1 J2 J3 J4 J5
    obtain ⟨k, hk9, rfl, rfl, J1, J2, J3, J4, J5⟩ := hrel
    have hcl : (L.take k).count r ≤ 1000 := Nat.le_trans List.count_le_length (by rw [List.length_take]; omega)
    have h0 : wr.cell? ⟨h, 0, none⟩ = some (.int .i64 n) := (blk_cell J1.out.1 0).trans rfl
    have h13 : wr.cell? ⟨h, 13, none⟩ = some (.slice A L.length c) := (blk_cell J1.out.1 13).trans rfl
    have x0 : wr.cell? ⟨bx, 0, none⟩ = some (.int .i64 r) := (blk_cell J3.out 0).trans rfl
    by_cases hlt : k < L.length
    · have HTS := Aside0.mk (count_snoc L r k hlt)
      obtain ⟨ad, eA, hx⟩ := rows_at J2.out k hlt
      subst eA
      have hbd := rd_in L k hlt HL2.out
      obtain ⟨x, hxe⟩ : ∃ x, L.getD k 0 = x := ⟨_, rfl⟩
      rw [hxe] at hx hbd
      obtain ⟨b0, b1⟩ := hbd
      have c5b : decide ((k : Int) < (L.length : Int)) = true := decide_eq_true (by omega)
      have kb0 : (0 : Int) ≤ (k : Int) := by omega
      have kb1 : (k : Int) < (L.length : Int) := by omega
      rw [hxe] at HTS
      clear hxe
      by_cases hxr : x = r
      · have hxb : (x == r) = true := beq_iff_eq.2 hxr
        have HXR := Aside0.mk hxr
        clear hxr
        go_upto_region 8 with (fail)
        go_quiet (fail)
        go_wp2
        go_roundw
        case rel => exact ⟨k + 1, by omega, by go_num, by rw [HTS.out, if_pos HXR.out]; go_num, ⟨IsR.drewN J1.out _⟩, ⟨show (wr.drewN _).ownsRow _ _ _ _ _ _ from J2.out⟩, ⟨blk_drewN J3.out _⟩, ⟨pw_below_drewN J4.out _⟩, ⟨keep_drewN J5.out _⟩⟩
        case measure => simp [intOf]; omega
      · have hxb : (x == r) = false := beq_eq_false_iff_ne.2 hxr
        have HXR := Aside0.mk hxr
        clear hxr
        go_upto_region 8 with (fail)
        go_quiet (fail)
        go_wp2
        go_roundw
        case rel => exact ⟨k + 1, by omega, by go_num, by rw [HTS.out, if_neg HXR.out]; rfl, ⟨IsR.drewN J1.out _⟩, ⟨show (wr.drewN _).ownsRow _ _ _ _ _ _ from J2.out⟩, ⟨blk_drewN J3.out _⟩, ⟨pw_below_drewN J4.out _⟩, ⟨keep_drewN J5.out _⟩⟩
        case measure => simp [intOf]; omega
    · obtain rfl : k = L.length := by omega
      rw [List.take_length] at hcl ⊢
      have c5b : decide ((L.length : Int) < (L.length : Int)) = false := by simp
      obtain ⟨q, hq⟩ : ∃ q : Nat, L.count r = q := ⟨_, rfl⟩
      rw [hq] at hcl hf ⊢
      have v1 : IntKind.i64.wrap (4 * n) = 4 * n := by rw [IntKind.wrap_i64]; omega
      have v2 : decide (4 * n ≤ (q : Int)) = true := decide_eq_true hf
      clear hq
      go_wp2
      go_ret
      exact ⟨rfl, J1.out, J2.out, J4.out, J5.out⟩
set_option maxRecDepth 100000 in
set_option maxHeartbeats 8000000 in
theorem rother_ok (h : Nat) (n f s dl ks ee wd rh sl cp i la le : Int) (A : Option Addr) (c : Nat) (L : List Int) (t r p o : Int) (z w : World) (hI : IsR z w h n f s dl ks ee wd rh sl cp i la le A L.length c) (hB : Below z.heap.size z w) (hO : w.ownsRow z.heap.size 3 1 (.slice A L.length c) L.length (L.map (Value.int .i64))) (hLn : L.length ≤ 1000) (hL2 : ∀ x ∈ L, 0 ≤ x ∧ x ≤ 1048575) (hk : Ok n f s dl ks ee wd rh sl cp) (hp : carillonref16_Place.f 1 n f s dl ks ee wd rh sl cp t = some (r, p, o, 0)) (r0 : 0 ≤ r) (r1 : r ≤ 1048575) (hf : (L.count r : Nat) < 4 * n) : Calls Try.prog 19 #[.pointer (some ⟨h, 0, none⟩), .int .i64 t] w fun en w' => ∃ A' c', en = .returned (.int .i64 0) ∧ IsR z w' h n f s dl ks ee wd rh sl cp i la le A' (flt r L ++ [r]).length c' ∧ w'.ownsRow z.heap.size 3 1 (.slice A' (flt r L ++ [r]).length c') (flt r L ++ [r]).length ((flt r L ++ [r]).map (Value.int .i64)) ∧ Below z.heap.size z w' ∧ KeepBut w w' h none := by
  have c0 : w.cell? ⟨h, 0, none⟩ = some (.int .i64 n) := (blk_cell hI.1 0).trans rfl
  have c1 : w.cell? ⟨h, 1, none⟩ = some (.int .i64 f) := (blk_cell hI.1 1).trans rfl
  have c2 : w.cell? ⟨h, 2, none⟩ = some (.int .i64 s) := (blk_cell hI.1 2).trans rfl
  have c3 : w.cell? ⟨h, 3, none⟩ = some (.int .i64 dl) := (blk_cell hI.1 3).trans rfl
  have c4 : w.cell? ⟨h, 4, none⟩ = some (.int .i64 ks) := (blk_cell hI.1 4).trans rfl
  have c5 : w.cell? ⟨h, 5, none⟩ = some (.int .i64 ee) := (blk_cell hI.1 5).trans rfl
  have c6 : w.cell? ⟨h, 6, none⟩ = some (.int .i64 wd) := (blk_cell hI.1 6).trans rfl
  have c7 : w.cell? ⟨h, 7, none⟩ = some (.int .i64 rh) := (blk_cell hI.1 7).trans rfl
  have c8 : w.cell? ⟨h, 8, none⟩ = some (.int .i64 sl) := (blk_cell hI.1 8).trans rfl
  have c9 : w.cell? ⟨h, 9, none⟩ = some (.int .i64 cp) := (blk_cell hI.1 9).trans rfl
  have hn : 1 ≤ n ∧ n ≤ 8 := by unfold Ok at hk; omega
  obtain ⟨n0, n1⟩ := hn
  have hgs : h < w.heap.size := blk_lt hI.1
  have hhz : z.heap.size ≤ h := hI.2
  have HI := Aside0.mk hI
  have HB := Aside0.mk hB
  have HP := Aside0.mk hp
  have HO := Aside0.mk hO
  have HL2 := Aside0.mk hL2
  clear hI hB hp hO hL2 hk
  go_enter Try.func19, Try.ntmps19
  go_upto_region 4 with (first | (go_at_call 52; go_loud (refine (carillonref16_Place.calls 1 n f s dl ks ee wd rh sl cp t r p o 0 _ HP.out).mono ?_; rintro en w2 ⟨rfl, hb⟩; have I2 : Aside0 (IsR z w2 h n f s dl ks ee wd rh sl cp i la le A L.length c) := ⟨blk_below HI.out.1 hb, HI.out.2⟩; have B2 := Aside0.mk (below_step HB.out hb); have K2 := Aside0.mk (KeepBut.of_below hb h none); have hs2 : h < w2.heap.size := Nat.lt_of_lt_of_le hgs hb.size; have k0 : w2.cell? ⟨h, 0, none⟩ = some (.int .i64 n) := (blk_cell I2.out.1 0).trans rfl; have k10 : w2.cell? ⟨h, 10, none⟩ = some (.int .i64 i) := (blk_cell I2.out.1 10).trans rfl; have k11 : w2.cell? ⟨h, 11, none⟩ = some (.int .i64 la) := (blk_cell I2.out.1 11).trans rfl; have k12 : w2.cell? ⟨h, 12, none⟩ = some (.int .i64 le) := (blk_cell I2.out.1 12).trans rfl; have k13 : w2.cell? ⟨h, 13, none⟩ = some (.slice A L.length c) := (blk_cell I2.out.1 13).trans rfl; have fz11 : w2.frozen? ⟨h, 11, none⟩ = false := blk_frozen I2.out.1 11; have fz13 : w2.frozen? ⟨h, 13, none⟩ = false := blk_frozen I2.out.1 13; have O2 : Aside0 (w2.ownsRow z.heap.size 3 1 (.slice A L.length c) L.length (L.map (Value.int .i64))) := ⟨HO.out.kept (grown_below hb) (by cases (Value.slice A L.length c).ownBlock <;> simp)⟩; clear hb)))
  refine wp_gen (fun W => ∃ bx, bx = w2.heap.size ∧ W.heap.size = bx + 1 ∧ Aside0 (IsR z W h n f s dl ks ee wd rh sl cp i la le A L.length c) ∧ Aside0 (W.ownsRow z.heap.size 3 1 (.slice A L.length c) L.length (L.map (Value.int .i64))) ∧ Aside0 (W.heap[bx]? = some (.cells #[.int .i64 r, .int .i64 p, .int .i64 o] 33 (0, 0))) ∧ Aside0 (Below z.heap.size z W) ∧ Aside0 (KeepBut w W h none)) ⟨_, rfl, by simp, ⟨I2.out.alloc _⟩, ⟨O2.out.alloc _⟩, ⟨blk_new _ _⟩, ⟨below_alloc B2.out _⟩, ⟨keep_alloc K2.out _⟩⟩ ?_
  rintro W ⟨bx, hbx, hW, J1, J2, J3, J4, J5⟩
  have HAB : Aside0 (∀ j, (Value.slice A L.length c).ownBlock = some j → j ≤ bx) := ⟨fun j hj => by have := (HO.out.lt j hj).2; have := K2.out.1; omega⟩
  have hb2 : w.heap.size ≤ bx := by rw [hbx]; exact K2.out.1
  rw [← hbx]
  clear I2 B2 K2 O2 hs2 k0 k10 k11 k12 k13 fz11 fz13 HI HB HO c0 c1 c2 c3 c4 c5 c6 c7 c8 c9 hbx
  obtain ⟨i0, hi, hz0, hz1, hz2⟩ := info_parts info3
  go_wp2
  go_loopw [7, 8] (fun vn vi wr => ∃ k : Nat, k ≤ L.length ∧ vi = .int .i64 k ∧ vn = .int .i64 ((L.take k).count r : Nat) ∧ Aside0 (IsR z wr h n f s dl ks ee wd rh sl cp i la le A L.length c) ∧ Aside0 (wr.ownsRow z.heap.size 3 1 (.slice A L.length c) L.length (L.map (Value.int .i64))) ∧ Aside0 (wr.heap[bx]? = some (.cells #[.int .i64 r, .int .i64 p, .int .i64 o] 33 (0, 0))) ∧ Aside0 (Below z.heap.size z wr) ∧ Aside0 (KeepBut w wr h none)) (fun _ vi _ => L.length - (intOf vi).toNat)
  case atStart => exact ⟨0, Nat.zero_le _, rfl, rfl, J1, J2, J3, J4, J5⟩
  case round =>
    clear J1 J2 J3 J4 J5
    obtain ⟨k, hk9, rfl, rfl, J1, J2, J3, J4, J5⟩ := hrel
    have hcl : (L.take k).count r ≤ 1000 := Nat.le_trans List.count_le_length (by rw [List.length_take]; omega)
    have h0 : wr.cell? ⟨h, 0, none⟩ = some (.int .i64 n) := (blk_cell J1.out.1 0).trans rfl
    have h13 : wr.cell? ⟨h, 13, none⟩ = some (.slice A L.length c) := (blk_cell J1.out.1 13).trans rfl
    have x0 : wr.cell? ⟨bx, 0, none⟩ = some (.int .i64 r) := (blk_cell J3.out 0).trans rfl
    by_cases hlt : k < L.length
    · have HTS := Aside0.mk (count_snoc L r k hlt)
      obtain ⟨ad, eA, hx⟩ := rows_at J2.out k hlt
      subst eA
      have hbd := rd_in L k hlt HL2.out
      obtain ⟨x, hxe⟩ : ∃ x, L.getD k 0 = x := ⟨_, rfl⟩
      rw [hxe] at hx hbd
      obtain ⟨b0, b1⟩ := hbd
      have c5b : decide ((k : Int) < (L.length : Int)) = true := decide_eq_true (by omega)
      have kb0 : (0 : Int) ≤ (k : Int) := by omega
      have kb1 : (k : Int) < (L.length : Int) := by omega
      rw [hxe] at HTS
      clear hxe
      by_cases hxr : x = r
      · have hxb : (x == r) = true := beq_iff_eq.2 hxr
        have HXR := Aside0.mk hxr
        clear hxr
        go_upto_region 8 with (fail)
        go_quiet (fail)
        go_wp2
        go_roundw
        case rel => exact ⟨k + 1, by omega, by go_num, by rw [HTS.out, if_pos HXR.out]; go_num, ⟨IsR.drewN J1.out _⟩, ⟨show (wr.drewN _).ownsRow _ _ _ _ _ _ from J2.out⟩, ⟨blk_drewN J3.out _⟩, ⟨pw_below_drewN J4.out _⟩, ⟨keep_drewN J5.out _⟩⟩
        case measure => simp [intOf]; omega
      · have hxb : (x == r) = false := beq_eq_false_iff_ne.2 hxr
        have HXR := Aside0.mk hxr
        clear hxr
        go_upto_region 8 with (fail)
        go_quiet (fail)
        go_wp2
        go_roundw
        case rel => exact ⟨k + 1, by omega, by go_num, by rw [HTS.out, if_neg HXR.out]; rfl, ⟨IsR.drewN J1.out _⟩, ⟨show (wr.drewN _).ownsRow _ _ _ _ _ _ from J2.out⟩, ⟨blk_drewN J3.out _⟩, ⟨pw_below_drewN J4.out _⟩, ⟨keep_drewN J5.out _⟩⟩
        case measure => simp [intOf]; omega
    · obtain rfl : k = L.length := by omega
      rw [List.take_length] at hcl ⊢
      have c5b : decide ((L.length : Int) < (L.length : Int)) = false := by simp
      obtain ⟨q, hq⟩ : ∃ q : Nat, L.count r = q := ⟨_, rfl⟩
      rw [hq] at hcl hf ⊢
      have v1 : IntKind.i64.wrap (4 * n) = 4 * n := by rw [IntKind.wrap_i64]; omega
      have v2 : decide (4 * n ≤ (q : Int)) = false := decide_eq_false (by omega)
      have HBX : Aside0 (bx < wr.heap.size) := ⟨blk_lt J3.out⟩
      clear hq
      go_wp2
      go_loopw [9, 10] (fun vz vi wr => ∃ (k : Nat) (vl : Value), vl = vz ∧ k ≤ L.length ∧ vi = .int .i64 k ∧ Aside0 (wr.ownsRow (bx + 1) 3 1 vl (flt r (L.take k)).length ((flt r (L.take k)).map (Value.int .i64))) ∧ Aside0 (IsR z wr h n f s dl ks ee wd rh sl cp i la le A L.length c) ∧ Aside0 (wr.ownsRow z.heap.size 3 1 (.slice A L.length c) L.length (L.map (Value.int .i64))) ∧ Aside0 (wr.heap[bx]? = some (.cells #[.int .i64 r, .int .i64 p, .int .i64 o] 33 (0, 0))) ∧ Aside0 (Below z.heap.size z wr) ∧ Aside0 (KeepBut w wr h none)) (fun _ vi _ => L.length - (intOf vi).toNat)
      case atStart => exact ⟨0, _, rfl, Nat.zero_le _, rfl, ⟨World.ownsRow_nil _ _ _ _⟩, J1, J2, J3, J4, J5⟩
      case round =>
        clear J1 J2 J3 J4 J5 h0 h13 x0
        obtain ⟨k, vl, evl, hk9, rfl, JO, J1, J2, J3, J4, J5⟩ := hrel
        subst evl
        have hfl := flt_len r L k
        have h0 : wr.cell? ⟨h, 0, none⟩ = some (.int .i64 n) := (blk_cell J1.out.1 0).trans rfl
        have h13 : wr.cell? ⟨h, 13, none⟩ = some (.slice A L.length c) := (blk_cell J1.out.1 13).trans rfl
        have x0 : wr.cell? ⟨bx, 0, none⟩ = some (.int .i64 r) := (blk_cell J3.out 0).trans rfl
        by_cases hlt : k < L.length
        · have HTS := Aside0.mk (flt_snoc L r k hlt)
          obtain ⟨ad, eA, hx⟩ := rows_at J2.out k hlt
          subst eA
          have hbd := rd_in L k hlt HL2.out
          obtain ⟨x, hxe⟩ : ∃ x, L.getD k 0 = x := ⟨_, rfl⟩
          rw [hxe] at hx hbd
          obtain ⟨b0, b1⟩ := hbd
          have c5b : decide ((k : Int) < (L.length : Int)) = true := decide_eq_true (by omega)
          have kb0 : (0 : Int) ≤ (k : Int) := by omega
          have kb1 : (k : Int) < (L.length : Int) := by omega
          rw [hxe] at HTS
          clear hxe
          by_cases hxr : r - 64 ≤ x
          · have hxb : decide (r - 64 ≤ x) = true := decide_eq_true hxr
            have HT2 := Aside0.mk (show flt r (L.take (k + 1)) = flt r (L.take k) ++ [x] by rw [HTS.out, if_pos hxr])
            have v4 : IntKind.i64.wrap (r - 64) = r - 64 := by rw [IntKind.wrap_i64]; omega
            go_upto_region 16 with (fail)
            go_quiet (fail)
            go_upto_region 17 with (fail)
            refine wp_gen (fun W => Aside0 (IsR z W h n f s dl ks ee wd rh sl cp i la le (some ad) L.length c) ∧ Aside0 (W.ownsRow z.heap.size 3 1 (.slice (some ad) L.length c) L.length (L.map (Value.int .i64))) ∧ Aside0 (W.heap[bx]? = some (.cells #[.int .i64 r, .int .i64 p, .int .i64 o] 33 (0, 0))) ∧ Aside0 (Below z.heap.size z W) ∧ Aside0 (KeepBut w W h none) ∧ Aside0 (W.ownsRow (bx + 1) 3 1 vl (flt r (L.take k)).length ((flt r (L.take k)).map (Value.int .i64))) ∧ W.cell? (ad.add k) = some (.int .i64 x) ∧ bx < W.heap.size) ⟨⟨IsR.drewN J1.out _⟩, ⟨show (wr.drewN _).ownsRow _ _ _ _ _ _ from J2.out⟩, ⟨blk_drewN J3.out _⟩, ⟨pw_below_drewN J4.out _⟩, ⟨keep_drewN J5.out _⟩, ⟨show (wr.drewN _).ownsRow _ _ _ _ _ _ from JO.out⟩, hx, blk_lt J3.out⟩ ?_
            rintro W ⟨J1, J2, J3, J4, J5, JO, hx, hbw⟩
            have h13 : W.cell? ⟨h, 13, none⟩ = some (.slice (some ad) L.length c) := (blk_cell J1.out.1 13).trans rfl
            have hown := JO.out
            go_wp2_with (first | (at_builtin; refine wpList_append_own _ rfl _ _ 48 rfl (bx + 1) 3 i0 (.int .i64 0) 1 8 Try.underlying48 hi hz0 hz1 hz2 rfl (by decide) _ _ _ rfl (hown.alloc _) ⟨W.heap.size, 0, none⟩ 1 1 [.int .i64 x] rfl rfl (cell_one_new _ _ _) (by simp [Value.oneCell']) (by unfold maxLen; omega) (by omega) (by simp; omega) ?_; intro v' w9 hown' hgrow _))
            have hall := (World.grownBy_alloc W (.cells #[.int .i64 x] 3) vl.ownBlock).trans hgrow
            have hvb : ∀ j, vl.ownBlock = some j → bx + 1 ≤ j := fun j hj => (JO.out.lt j hj).1
            clear hown
            go_roundw
            case rel => exact ⟨k + 1, _, rfl, by omega, by go_num, ⟨by rw [HT2.out]; simpa using hown'⟩, ⟨IsR.grown J1.out hall (fun e => by have := hvb _ e.symm; omega)⟩, ⟨J2.out.kept hall (own_ne J2.out hvb HAB.out)⟩, ⟨blk_grown J3.out hall (fun e => by have := hvb _ e.symm; omega)⟩, ⟨J4.out.grown hall J4.out.size (fun j hj => by have := hvb j hj; omega)⟩, ⟨keep_grown J5.out hall (fun j hj => by have := hvb j hj; omega)⟩⟩
            case measure => simp [intOf]; omega
          · have hxb : decide (r - 64 ≤ x) = false := decide_eq_false hxr
            have HT2 := Aside0.mk (show flt r (L.take (k + 1)) = flt r (L.take k) by rw [HTS.out, if_neg hxr, List.append_nil])
            have v4 : IntKind.i64.wrap (r - 64) = r - 64 := by rw [IntKind.wrap_i64]; omega
            go_upto_region 16 with (fail)
            go_quiet (fail)
            go_wp2
            go_roundw
            case rel => exact ⟨k + 1, _, rfl, by omega, by go_num, ⟨by rw [HT2.out]; exact JO.out⟩, ⟨IsR.drewN J1.out _⟩, ⟨show (wr.drewN _).ownsRow _ _ _ _ _ _ from J2.out⟩, ⟨blk_drewN J3.out _⟩, ⟨pw_below_drewN J4.out _⟩, ⟨keep_drewN J5.out _⟩⟩
            case measure => simp [intOf]; omega
        · obtain rfl : k = L.length := by omega
          rw [List.take_length] at hfl JO
          have c5b : decide ((L.length : Int) < (L.length : Int)) = false := by simp
          have hbw : bx < wr.heap.size := blk_lt J3.out
          have hown := JO.out
          go_wp2_with (first | (at_builtin; refine wpList_append_own _ rfl _ _ 48 rfl (bx + 1) 3 i0 (.int .i64 0) 1 8 Try.underlying48 hi hz0 hz1 hz2 rfl (by decide) _ _ _ rfl (hown.alloc _) ⟨wr.heap.size, 0, none⟩ 1 1 [.int .i64 r] rfl rfl (cell_one_new _ _ _) (by simp [Value.oneCell']) (by unfold maxLen; omega) (by omega) (by simp; omega) ?_; intro v' w9 hown' hgrow _; obtain ⟨g', cap', rfl⟩ := Go.Joins.ownsRow_form hown' (by omega); have hall := (World.grownBy_alloc wr (.cells #[.int .i64 r] 3) vl.ownBlock).trans hgrow; have hvb : ∀ j, vl.ownBlock = some j → bx + 1 ≤ j := (fun j hj => (JO.out.lt j hj).1); have K1 : Aside0 (IsR z w9 h n f s dl ks ee wd rh sl cp i la le A L.length c) := ⟨IsR.grown J1.out hall (fun e => by have := hvb _ e.symm; omega)⟩; have K4 : Aside0 (Below z.heap.size z w9) := ⟨J4.out.grown hall J4.out.size (fun j hj => by have := hvb j hj; omega)⟩; have K5 : Aside0 (KeepBut w w9 h none) := ⟨keep_grown J5.out hall (fun j hj => by have := hvb j hj; omega)⟩; have h13b : w9.cell? ⟨h, 13, none⟩ = some (.slice A L.length c) := (blk_cell K1.out.1 13).trans rfl; have f13b : w9.frozen? ⟨h, 13, none⟩ = false := blk_frozen K1.out.1 13; have KO := Aside0.mk hown'; clear hown hown' hall hgrow hvb))
          go_ret
          have hlen : (flt r L ++ [r]).length = (flt r L).length + 1 := by simp
          refine ⟨some ⟨g', 0, none⟩, cap', rfl, ?_, ?_, K4.out.setCell K1.out.2 _, K5.out.set_ _ _⟩
          · rw [hlen]; exact IsR.set_13 K1.out _ _ _
          · rw [hlen, List.map_append]
            exact Go.Joins.ownsRow_le (ownsRow_setCell_below KO.out (by show h < bx + 1; omega) _) (by omega)
end Go.Proofs.Ytfaikkhnlioajaa.Gd7
