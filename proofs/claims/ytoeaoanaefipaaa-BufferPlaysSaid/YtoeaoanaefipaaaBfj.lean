/- Putting by the reference. -/
import Derived.Test.YtoeaoanaefipaaaProg
import Derived.Below
import Derived.Deep.Draws
import Derived.Deep.AppendLies
import Derived.Maps.AppendAt
import Derived.OwnWalk
import Derived.Laws.BytesArg
import Derived.Laws.MakeOwn
import Derived.Laws.OwnMore
import Derived.Deep.OwnRows
import Derived.Tactics
import Derived.Lib.ConvBytes
import Derived.Laws.Slices
import Derived.WalkKit
import Derived.KernelRfl
import Derived.RowKit3
import Derived.Deep.LoopGhost
import Derived.Deep.QuietTactic
import Derived.BigQuiet
import Derived.WideLaws
import Derived.Deep.DeepCutAuto
import Derived.Deep.CutBlock
import Derived.Deep.RegionHeld3
import Derived.Laws.Rows
import Derived.Lib.AppendStr
import Derived.ArgAppend
import Derived.Laws.IdiomCopy
import Derived.OrdersHeld
import Derived.Laws.BitsLemmas
import Derived.RowKit
import Derived.RegionTactic
import Derived.ChangeAlike
import Derived.Outline
import Derived.LoopTactic
import Derived.WalkSpells
import Derived.WalkLawsBesides
import Derived.Lib.Hide
import Derived.StillTailTactics
import Derived.Deep.RegionWith
import Derived.Deep.RegionLaw
import Derived.Deep.DeepFit
import Derived.Deep.DeepMust
import Derived.Test.YtoeaoanaefipaaaWWords
import Derived.Test.YtoeaoanaefipaaaWLast
import Derived.Test.YtoeaoanaefipaaaWTab
import Derived.Test.YtoeaoanaefipaaaWFour
import Derived.Test.YtoeaoanaefipaaaWQPut
import Derived.Test.YtoeaoanaefipaaaWApart
import Derived.Test.YtoeaoanaefipaaaWArr
import Derived.Test.YtoeaoanaefipaaaWZeros
import Derived.Test.YtoeaoanaefipaaaWFoot
import Derived.Test.YtoeaoanaefipaaaWKept
import Derived.Test.YtoeaoanaefipaaaWShare
import Derived.Test.YtoeaoanaefipaaaWN
import Derived.Test.YtoeaoanaefipaaaWFootNe
import Derived.Test.YtoeaoanaefipaaaWAt
import Derived.Test.YtoeaoanaefipaaaWEqStruct
import Derived.Test.YtoeaoanaefipaaaWRepsOne
import Derived.Test.YtoeaoanaefipaaaWInv
import Derived.Test.YtoeaoanaefipaaaWInvWords
import Derived.Test.YtoeaoanaefipaaaWGuard
import Derived.Test.YtoeaoanaefipaaaWNEv
import Derived.Test.YtoeaoanaefipaaaWMore
import Derived.Test.YtoeaoanaefipaaaBfi
namespace Go.Proofs.Ytoeaoanaefipaaa.Bfj
open Go.RowKit Go.Proofs.YtoeaoanaefipaaaW.PrintWords Go.Proofs.YtoeaoanaefipaaaW.PrintLast Go.Proofs.YtoeaoanaefipaaaW.PrintMore 
attribute [local go_sem] max2_int min2_int max_two min_two max_three min_three max_four min_four
set_option linter.unusedVariables false
set_option linter.unusedSimpArgs false
open Go.Maps Go.ChangeMaps Go.Proofs.Ytoeaoanaefipaaa.Bf1 Go.Proofs.Ytoeaoanaefipaaa.Bf2 Go.Proofs.Ytoeaoanaefipaaa.Bf3 Go.Proofs.Ytoeaoanaefipaaa.BfP Go.Proofs.Ytoeaoanaefipaaa.Bf4 Go.Proofs.Ytoeaoanaefipaaa.Bf5 Go.Proofs.Ytoeaoanaefipaaa.Bf6 Go.Proofs.Ytoeaoanaefipaaa.Bf7 Go.Proofs.Ytoeaoanaefipaaa.Bf8 Go.Proofs.Ytoeaoanaefipaaa.Bf9 Go.Proofs.Ytoeaoanaefipaaa.BfN Go.Proofs.Ytoeaoanaefipaaa.Bfa Go.Proofs.Ytoeaoanaefipaaa.BfQ Go.Proofs.Ytoeaoanaefipaaa.Bfb Go.Proofs.Ytoeaoanaefipaaa.Bfc Go.Proofs.Ytoeaoanaefipaaa.Bfd Go.Proofs.Ytoeaoanaefipaaa.Bfe Go.Proofs.Ytoeaoanaefipaaa.Bfg Go.Proofs.Ytoeaoanaefipaaa.Bfh Go.Proofs.Ytoeaoanaefipaaa.Bfi
attribute [local go_sem] cellS1 frozenS1 cellS2 frozenS2 cellS3 frozenS3 cellS4 frozenS4 cellS5 frozenS5 cellS6 frozenS6

theorem its_erase (P : List Rt) (m : Nat) : its (P.eraseIdx m) = (its P).eraseIdx m := by
  unfold its
  rw [List.eraseIdx_eq_take_drop_succ, List.eraseIdx_eq_take_drop_succ, List.map_append, List.map_take, List.map_drop]
theorem own_nn (x : Option Nat) : x = none ∨ x ≠ none := by cases x <;> simp
theorem run_append_nil {P : Program} {w : World} {base : Nat} {t ty e : TypeId} {i : TypeInfo} {size n c : Nat} {v : Value} {xs : List Value} (ht : P.underlying t = some (.slice e)) (hi : P.info? e = some i) (hown : w.ownsRow base e size v n xs) :
    (Builtin.append_ #[t, t] ty #[v, .slice none 0 c]).run P w = .ok v w := by
  have hsz : (sizeOf e).run P w = .ok i.size w := by simp [sizeOf, run_typeInfo w hi]
  rcases hown.2 with ⟨rfl, rfl⟩ | ⟨g, cap, cur, rfl, _, _, hnc, _⟩
  · simp [Builtin.append_, run_underlying ht, hsz, Result.andThen, Builtin.lenOf, Builtin.firstCells]
  · simp [Builtin.append_, run_underlying ht, hsz, Result.andThen, Builtin.lenOf, Builtin.firstCells, hnc, storeCells]
theorem wpList_append_nil {P : Program} {w : World} {ops : Array Oper} {rest : List Oper} {o : Oper} {a : Act} {Q : Exit → Act → World → Prop} (hgd : o.guard = none) (s x : Operand) (t : TypeId)
    (ho : o.op = .call { callee := .builtin .append, args := #[s, x], argTypes := #[t, t] }) (base : Nat) (e : TypeId) (size : Nat) (v : Value) (n : Nat) (xs : List Value) (hs : a.eval s = v) (hown : w.ownsRow base e size v n xs) (c : Nat) (hx : a.eval x = .slice none 0 c)
    (ht : P.underlying t = some (.slice e)) {i : TypeInfo} (hi : P.info? e = some i)
    (h : ∀ v' w', w'.ownsRow base e size v' n xs → w.grownBy w' v.ownBlock → wpList P ops Q rest (a.put o.dst v') w') : wpList P ops Q (o :: rest) a w := by
  refine wpList_plain hgd fun K hK => ?_
  have hr := run_append_nil (c := c) (ty := o.type) ht hi hown
  unfold Oper.wp execOp
  simp only [ho, resolve, invoke, builtin, Sem.run_bind, Sem.run_pure, Result.andThen_ok, List.map_toArray, List.map_cons, List.map_nil, hs, hx, hr]
  exact hK _ _ (h v w hown ⟨rfl, rfl, rfl, Nat.le_refl _, fun _ _ _ => rfl⟩)
theorem its_get (P : List Rt) (j : Nat) (hj : j < P.length) : (its P)[j]'(by rw [its_len]; exact hj) = (P[j]).1 := by unfold its; simp
set_option maxRecDepth 100000 in
set_option maxHeartbeats 2000000 in
theorem ref_good (h : Nat) (mo : Int) (P : List Rt) (lo : Int) (A : Option Addr) (c : Nat) (a b : Int) (S0 : Option Addr) (s : List Int) (cs : Nat) (z w : World) (k : IsR z w h mo P lo A c) (hC : ∀ W, Upd (fun j => j = h) w W → Kd.C (Kd.int .u8) W S0 s.length s) (hs : ∀ y ∈ s, 0 ≤ y ∧ y ≤ 255) (hL : ∀ x ∈ its P, ItOk x) (hl : P.length ≤ 64) (hlm : (P.length : Int) ≤ mo) (h1 : 1 ≤ mo) (hlo : 0 ≤ lo ∧ lo ≤ 1000000) (hv : 0 ≤ a ∧ a ≤ 65535 ∧ 1 ≤ b ∧ b ≤ 256 ∧ s.length ≤ 96) : Calls Try.prog 17 #[.pointer (some ⟨h, 0, none⟩), .int .i64 a, .int .i64 b, .slice S0 s.length cs] w fun en w' => ∃ (P' : List Rt) (A' : Option Addr) (c' : Nat), en = .returned (.int .i64 (putS mo (its P) lo a b s).1) ∧ its P' = (putS mo (its P) lo a b s).2.1 ∧ IsR z w' h mo P' (putS mo (its P) lo a b s).2.2 A' c' ∧ Upd (fun j => j = h) w w' := by
  obtain ⟨i60, hi60, hz60, hs60, hb60⟩ := info_parts info60
  obtain ⟨i5, hi5, hz5, hs5, hb5⟩ := info_parts info5
  have HZ60 := Aside0.mk (And.intro hi60 (And.intro hz60 (And.intro hs60 hb60)))
  have HZ5 := Aside0.mk (And.intro hi5 (And.intro hz5 (And.intro hs5 hb5)))
  have HK := Aside0.mk k
  have HC := Aside0.mk hC
  have HSB := Aside0.mk hs
  have HL := Aside0.mk hL
  have HV := Aside0.mk hv
  have c1 : w.cell? ⟨h, 1, none⟩ = some (.slice A P.length c) := (blk_cell k.1 1).trans rfl
  have hhl := blk_lt k.1
  obtain ⟨v1, v2, v3, v4, v5⟩ := hv
  have hsz : decide ((96 : Int) < (s.length : Int)) = false := decide_eq_false (by omega)
  clear k hC hs hL hi60 hz60 hs60 hb60 hi5 hz5 hs5 hb5 v5
  go_enter Try.func17, Try.ntmps17
  go_wp2
  go_loopw [9] (fun vi wr => ∃ d : Nat, vi = .int .i64 d ∧ d ≤ P.length ∧ Aside0 (∀ j (hj : j < P.length), j < d → (P[j]).1.2.2 ≠ s) ∧ Aside0 (Below w.heap.size w wr)) (fun vi _ => P.length - (intOf vi).toNat)
  case atStart => exact ⟨0, rfl, Nat.zero_le _, ⟨fun j _ hj => absurd hj (Nat.not_lt_zero _)⟩, ⟨Below.refl _ _⟩⟩
  case round =>
    obtain ⟨d, rfl, hd, HD, P1⟩ := hrel
    have c1w := cell_bel P1.out c1
    by_cases hdl : d < P.length
    · have hdb : decide ((d : Int) < (P.length : Int)) = true := decide_eq_true (by omega)
      obtain ⟨gr, e, h0, h1, h2⟩ := rit (HK.out.below P1.out) hdl
      have hrb := (HK.out.below P1.out).2.2.2 _ (List.getElem_mem hdl)
      have hok := HL.out _ (List.mem_map.2 ⟨_, List.getElem_mem hdl, rfl⟩)
      have hmem : P[d] ∈ P := List.getElem_mem hdl
      subst e
      obtain ⟨p, hp⟩ : ∃ p, P[d] = p := ⟨_, rfl⟩
      have HP := Aside0.mk hp
      rw [hp] at h2 hrb hok hmem
      have HMEM := Aside0.mk hmem
      obtain ⟨⟨xa, xb, xs⟩, pv⟩ := p
      unfold RBytes at hrb
      dsimp only at h2 hrb
      obtain ⟨S, cS, rfl⟩ := own_slice2 hrb
      have hxs : xs.length ≤ 96 ∧ ∀ y ∈ xs, 0 ≤ y ∧ y ≤ 255 := ⟨hok.2.2.2.2.1, hok.2.2.2.2.2⟩
      have HXS := Aside0.mk hxs
      have q1 : ∀ m, (convert 27 9 (.slice S xs.length cS)).run Try.prog (wr.drewN m) = .ok (.string (strOfNums xs)) (wr.drewN m) := fun m => Kd.C_string Try.underlying27 Try.underlying5 Try.underlying9 (own_C (z := wr) hrb (Keep.of_below (pw_below_drewN (Below.refl _ _) m)) (by have := HXS.out.1; unfold maxLen; omega))
      have q2 : ∀ m, (convert 27 9 (.slice S0 s.length cs)).run Try.prog (wr.drewN m) = .ok (.string (strOfNums s)) (wr.drewN m) := fun m => Kd.C_string Try.underlying27 Try.underlying5 Try.underlying9 (HC.out _ (Upd.of_below (pw_below_drewN P1.out m)))
      have hz0 : (0 : Int) ≤ (d : Int) := by omega
      have hz1 : (d : Int) < (P.length : Int) := by omega
      clear hp h0 h1 hrb hok hmem hxs
      by_cases hq : xs = s
      · have heq : ((strOfNums xs).toList == (strOfNums s).toList) = true := by rw [hq]; simp
        have HQ := Aside0.mk hq
        clear hq
        go_upto_region 6 with (fail)
        go_quiet (fail)
        go_wp2
        go_ret
        have hp := pureP mo (its P) lo a b s HV.out
        have hany : ((its P).any fun y => decide (y.2.2 = s)) = true := List.any_eq_true.2 ⟨(xa, xb, xs), List.mem_map.2 ⟨_, HMEM.out, rfl⟩, by simpa using HQ.out⟩
        rw [if_pos hany] at hp
        rw [hp]
        exact ⟨P, _, c, rfl, rfl, HK.out.below (pw_below_drewN P1.out _), Upd.of_below (pw_below_drewN P1.out _)⟩
      · have heq : ((strOfNums xs).toList == (strOfNums s).toList) = false := by
          rw [Bool.eq_false_iff]
          intro e
          exact hq (u8_injT HXS.out.2 HSB.out (by simpa using e))
        have HQ := Aside0.mk hq
        clear hq
        go_upto_region 6 with (fail)
        go_quiet (fail)
        go_wp2
        go_roundw
        case rel =>
          refine ⟨d + 1, by go_num, by omega, ⟨fun j hj hjd => ?_⟩, ⟨pw_below_drewN P1.out _⟩⟩
          by_cases hjd2 : j = d
          · subst hjd2
            rw [HP.out]
            exact HQ.out
          · exact HD.out j hj (by omega)
        case measure => simp [intOf]; omega
    · have hdb : decide ((d : Int) < (P.length : Int)) = false := decide_eq_false (by omega)
      obtain rfl : d = P.length := by omega
      have hany := any_no (its P) s (fun j hj => by
        have hj' : j < P.length := by rw [its_len] at hj; exact hj
        have := HD.out j hj' hj'
        rw [its_get P j hj']
        exact this)
      have hp := pureP mo (its P) lo a b s HV.out
      rw [if_neg (by rw [hany]; simp), its_len] at hp
      have HP := Aside0.mk hp
      clear hany hp HD
      have c0w : wr.cell? ⟨h, 0, none⟩ = some (.int .i64 mo) := (blk_cell (HK.out.below P1.out).1 0).trans rfl
      by_cases hf : mo ≤ (P.length : Int)
      · have hfb : decide (mo ≤ (P.length : Int)) = true := decide_eq_true hf
        have hpv := HP.out
        rw [if_pos hf] at hpv
        have HPV0 := Aside0.mk hpv
        clear hpv
        go_upto_region 8 with (fail)
        go_quiet (fail)
        go_upto_region 9 with (fail)
        refine wp_gen (fun W => IsR z W h mo P lo A c ∧ Below w.heap.size w W) ⟨HK.out.below (pw_below_drewN P1.out _), pw_below_drewN P1.out _⟩ ?_
        clear c0w c1w P1
        rintro W ⟨q1, q2⟩
        have QR := Aside0.mk q1
        have QU := Aside0.mk q2
        clear q1 q2
        go_wp2
        go_loopw [11, 12] (fun vm vi wr => ∃ (d mst : Nat) (fa fb : Int) (fv : Value), vi = .int .i64 d ∧ d ≤ P.length ∧ vm = .int .i64 mst ∧ mst ≤ 64 ∧ Aside0 (fullT (its P) d = (fa, fb)) ∧ Aside0 (mst = cnt (its P) fa fb) ∧ Aside0 (wr.heap[W.heap.size]? = some (.cells #[.int .i64 fa, .int .i64 fb, fv] 60 (0, 0))) ∧ Aside0 (Below W.heap.size W wr)) (fun _ vi _ => P.length - (intOf vi).toNat)
        case atStart => exact ⟨0, 0, 0, 0, .slice none 0 0, rfl, Nat.zero_le _, rfl, Nat.zero_le _, ⟨rfl⟩, ⟨(cnt_none _ 0 0 (fun x hx hh => by have := (HL.out x hx).2.2.1; omega)).symm⟩, ⟨blk_new _ _⟩, ⟨below_alloc (Below.refl _ _) _⟩⟩
        case round =>
          obtain ⟨d, mst, fa, fb, fv, rfl, hd, rfl, hm64, HF, HMS, R1, R2⟩ := hrel
          have hIR := QR.out.below R2.out
          have c1w : wr.cell? ⟨h, 1, none⟩ = some (.slice A P.length c) := (blk_cell hIR.1 1).trans rfl
          by_cases hdl : d < P.length
          · have hdb : decide ((d : Int) < (P.length : Int)) = true := decide_eq_true (by omega)
            obtain ⟨gr, e, r0, r1, r2⟩ := rit hIR hdl
            subst e
            have hfs := fullT_succ (its P) d (by rw [its_len]; exact hdl)
            rw [its_get P d hdl, HF.out] at hfs
            have hrb := hIR.2.2.2 _ (List.getElem_mem hdl)
            obtain ⟨p, hp⟩ : ∃ p, P[d] = p := ⟨_, rfl⟩
            rw [hp] at r0 r1 r2 hfs hrb
            obtain ⟨⟨xa, xb, xs⟩, pv⟩ := p
            unfold RBytes at hrb
            dsimp only at r0 r1 r2 hfs hrb
            obtain ⟨S, cS, rfl⟩ := own_slice2 hrb
            clear hrb
            obtain ⟨nn, hnn⟩ : ∃ nn, cnt (its P) xa xb = nn := ⟨_, rfl⟩
            have hn64 : nn ≤ 64 := by have := cnt_le (its P) xa xb; rw [its_len] at this; omega
            unfold stF at hfs
            dsimp only at hfs
            rw [← HMS.out, hnn] at hfs
            have HFS := Aside0.mk hfs
            have HNN := Aside0.mk hnn
            have HIR := Aside0.mk hIR
            have hz0 : (0 : Int) ≤ (d : Int) := by omega
            have hz1 : (d : Int) < (P.length : Int) := by omega
            have d1 : wr.drew.cell? ⟨h, 1, none⟩ = some (.slice (some ⟨gr, 0, none⟩) P.length c) := c1w
            have d2 : wr.drew.cell? ⟨gr, d * 3, none⟩ = some (.int .i64 xa) := r0
            have d3 : wr.drew.cell? ⟨gr, d * 3 + 1, none⟩ = some (.int .i64 xb) := r1
            clear hp hfs hnn hIR
            go_upto_region 14 with (fail)
            go_region_held3 (fun U => U.cell? ⟨h, 1, none⟩ = some (.slice (some ⟨gr, 0, none⟩) P.length c) ∧ U.cell? ⟨gr, d * 3, none⟩ = some (.int .i64 xa) ∧ U.cell? ⟨gr, d * 3 + 1, none⟩ = some (.int .i64 xb)) (go_keep) (first | (go_at_call 20; go_loud (refine (ref_count h mo P lo (some ⟨gr, 0, none⟩) c xa xb z wr.drew HIR.out hl).mono ?_; rw [HNN.out]; rintro e w' ⟨rfl, rfl⟩)))
            by_cases hg : mst < nn
            · have hgb : decide ((mst : Int) < (nn : Int)) = true := decide_eq_true (by omega)
              have hfs := HFS.out
              rw [if_pos hg] at hfs
              have HFS2 := Aside0.mk hfs
              have k0 : wr.cell? ⟨W.heap.size, 0, none⟩ = some (.int .i64 fa) := (blk_cell R1.out 0).trans rfl
              have k1 : wr.cell? ⟨W.heap.size, 1, none⟩ = some (.int .i64 fb) := (blk_cell R1.out 1).trans rfl
              have k2 : wr.cell? ⟨W.heap.size, 2, none⟩ = some fv := (blk_cell R1.out 2).trans rfl
              have l0 : wr.frozen? ⟨W.heap.size, 0, none⟩ = false := blk_frozen R1.out 0
              have l1 : wr.frozen? ⟨W.heap.size, 1, none⟩ = false := blk_frozen R1.out 1
              have l2 : wr.frozen? ⟨W.heap.size, 2, none⟩ = false := blk_frozen R1.out 2
              clear hfs HFS
              go_wp2
              go_roundw
              case rel => exact ⟨d + 1, nn, xa, xb, _, by go_num, by omega, rfl, hn64, HFS2, ⟨HNN.out.symm⟩, ⟨blk_put (blk_put (blk_put (w := wr.drew) R1.out 0 _ rfl) 1 _ rfl) 2 _ rfl⟩, ⟨below_set (below_set (below_set (below_drew1 R2.out) (Nat.le_refl _)) (Nat.le_refl _)) (Nat.le_refl _)⟩⟩
              case measure => simp [intOf]; omega
            · have hgb : decide ((mst : Int) < (nn : Int)) = false := decide_eq_false (by omega)
              have hfs := HFS.out
              rw [if_neg hg] at hfs
              have HFS2 := Aside0.mk hfs
              clear hfs HFS
              go_wp2
              go_roundw
              case rel => exact ⟨d + 1, mst, fa, fb, fv, by go_num, by omega, rfl, hm64, HFS2, HMS, ⟨blk_drew R1.out⟩, ⟨below_drew1 R2.out⟩⟩
              case measure => simp [intOf]; omega
          · have hdb : decide ((d : Int) < (P.length : Int)) = false := decide_eq_false (by omega)
            obtain rfl : d = P.length := by omega
            have c2w : wr.cell? ⟨h, 2, none⟩ = some (.int .i64 lo) := (blk_cell hIR.1 2).trans rfl
            have f2w : wr.frozen? ⟨h, 2, none⟩ = false := blk_frozen hIR.1 2
            have hff := HF.out
            rw [← its_len P] at hff
            replace hff : fullF (its P) = (fa, fb) := hff
            have hpv := HPV0.out
            rw [hff] at hpv
            dsimp only at hpv
            rw [← HMS.out] at hpv
            have HFF := Aside0.mk hff
            have HIR := Aside0.mk hIR
            obtain ⟨co, hco⟩ : ∃ co, cnt (its P) a b = co := ⟨_, rfl⟩
            rw [hco] at hpv
            have HCO := Aside0.mk hco
            have hfk : h ≠ W.heap.size := by have := blk_lt QR.out.1; omega
            clear hff hco hIR HPV0
            go_upto_region 19 with (fail)
            refine wp_gen (fun V => IsR z V h mo P (lo + 1) A c ∧ Upd (fun j => j = h) w V ∧ V.heap[W.heap.size]? = some (.cells #[.int .i64 fa, .int .i64 fb, fv] 60 (0, 0))) ⟨⟨blk_put HIR.out.1 2 _ rfl, HIR.out.2.1, HIR.out.2.2.1.kept (grownBy_setC wr ⟨h, 2, none⟩ _) (Or.inr (own_off HIR.out.2.2.1 HIR.out.1 (by decide))), fun p hp => World.ownsRow.kept (HIR.out.2.2.2 p hp) (grownBy_setC wr ⟨h, 2, none⟩ _) (Or.inr (own_off (HIR.out.2.2.2 p hp) HIR.out.1 (by decide)))⟩, Upd.setCell (S := fun j => j = h) (p := ⟨h, 2, none⟩) (Upd.of_below (below_step QU.out R2.out)) (Or.inl rfl) _, blk_far R1.out (fun e => hfk e.symm) _⟩ ?_
            clear c2w f2w c1w HIR R1 R2 QR QU hfk HF HMS
            obtain ⟨fk, hfk2⟩ : ∃ fk, W.heap.size = fk := ⟨_, rfl⟩
            rw [hfk2]
            clear hfk2
            rintro V ⟨q1, q2, q3⟩
            have QR := Aside0.mk q1
            have QU := Aside0.mk q2
            have QF := Aside0.mk q3
            clear q1 q2 q3
            by_cases hcc : mst ≤ co
            · have hcb : decide ((mst : Int) ≤ (co : Int)) = true := decide_eq_true (by omega)
              rw [if_pos hcc] at hpv
              have HPV := Aside0.mk hpv
              clear hpv
              go_wp2_with (first | (go_at_call 20; go_loud (refine (ref_count h mo P (lo + 1) A c a b z _ QR.out hl).mono ?_; rw [HCO.out]; rintro en w' ⟨rfl, e8⟩; rw [e8]; clear e8)))
              go_ret
              rw [HPV.out]
              first | exact ⟨rfl, P, rfl, ⟨A, c, QR.out⟩, QU.out⟩ | exact ⟨P, A, c, rfl, rfl, QR.out, QU.out⟩
            · have hcb : decide ((mst : Int) ≤ (co : Int)) = false := decide_eq_false (by omega)
              rw [if_neg hcc] at hpv
              have hne : its P ≠ [] := by intro e; have e2 := congrArg List.length e; rw [its_len] at e2; simp at e2; rw [e2] at hf; simp at hf; omega
              obtain ⟨x, hx, ex, hmx2⟩ := fullF_spec (its P) HL.out hne
              obtain ⟨mi, hmi, emi, hq1, hq2⟩ := newest_some (its P) x hx
              rw [← ex, HFF.out] at emi
              rw [its_len] at hmi emi
              rw [emi, Int.toNat_natCast] at hpv
              have HPV1 := Aside0.mk hpv
              have HEM := Aside0.mk emi
              clear hpv hne hx ex hmx2 hq1 hq2 emi x
              go_wp2_with (first | (go_at_call 20; go_loud (refine (ref_count h mo P (lo + 1) A c a b z _ QR.out hl).mono ?_; rw [HCO.out]; rintro en w' ⟨rfl, e8⟩; rw [e8]; clear e8)))
              go_loopw [14, 15] (fun vl vi wr => ∃ d ls : Nat, vi = .int .i64 d ∧ d ≤ P.length ∧ vl = .int .i64 ls ∧ Aside0 ((newT (its P) (fa, fb) d = -1 ∧ ls = 0) ∨ newT (its P) (fa, fb) d = (ls : Int)) ∧ Aside0 (IsR z wr h mo P (lo + 1) A c) ∧ Aside0 (Upd (fun j => j = h) w wr) ∧ Aside0 (wr.heap[fk]? = some (.cells #[.int .i64 fa, .int .i64 fb, fv] 60 (0, 0)))) (fun _ vi _ => P.length - (intOf vi).toNat)
              case atStart => exact ⟨0, 0, rfl, Nat.zero_le _, rfl, ⟨Or.inl ⟨rfl, rfl⟩⟩, QR, QU, QF⟩
              case round =>
                obtain ⟨d, ls, rfl, hd, rfl, HN, T1, T2, T3⟩ := hrel
                have hIR := T1.out
                have hQF := T3.out
                have c1w : wr.cell? ⟨h, 1, none⟩ = some (.slice A P.length c) := (blk_cell hIR.1 1).trans rfl
                have k0 : wr.cell? ⟨fk, 0, none⟩ = some (.int .i64 fa) := (blk_cell hQF 0).trans rfl
                have k1 : wr.cell? ⟨fk, 1, none⟩ = some (.int .i64 fb) := (blk_cell hQF 1).trans rfl
                by_cases hdl : d < P.length
                · have hdb : decide ((d : Int) < (P.length : Int)) = true := decide_eq_true (by omega)
                  obtain ⟨gr, e, r0, r1, r2⟩ := rit hIR hdl
                  subst e
                  have hns := newT_step (its P) fa fb d (by rw [its_len]; exact hdl)
                  rw [its_get P d hdl] at hns
                  obtain ⟨p, hp⟩ : ∃ p, P[d] = p := ⟨_, rfl⟩
                  rw [hp] at r0 r1 hns
                  obtain ⟨⟨xa, xb, xs⟩, pv⟩ := p
                  dsimp only at r0 r1 hns
                  have HNS := Aside0.mk hns
                  have hz0 : (0 : Int) ≤ (d : Int) := by omega
                  have hz1 : (d : Int) < (P.length : Int) := by omega
                  clear hp r2 hns hIR hQF
                  by_cases e1 : xa = fa
                  · have e1b : (xa == fa) = true := by simp [e1]
                    by_cases e2 : xb = fb
                    · have e2b : (xb == fb) = true := by simp [e2]
                      have hns := HNS.out
                      rw [if_pos ⟨e1, e2⟩] at hns
                      have HNS2 := Aside0.mk hns
                      clear hns e1 e2
                      go_upto_region 25 with (fail)
                      go_quiet (fail)
                      go_wp2
                      go_roundw
                      case rel => exact ⟨d + 1, d, by go_num, by omega, rfl, ⟨Or.inr HNS2.out⟩, ⟨T1.out⟩, ⟨T2.out.drewN _⟩, ⟨T3.out⟩⟩
                      case measure => simp [intOf]; omega
                    · have e2b : (xb == fb) = false := by simp [e2]
                      have hns := HNS.out
                      rw [if_neg (fun q => e2 q.2)] at hns
                      have HNS2 := Aside0.mk hns
                      clear hns e1 e2
                      go_upto_region 25 with (fail)
                      go_quiet (fail)
                      go_wp2
                      go_roundw
                      case rel => exact ⟨d + 1, ls, by go_num, by omega, rfl, ⟨by rw [HNS2.out]; exact HN.out⟩, ⟨T1.out⟩, ⟨T2.out.drewN _⟩, ⟨T3.out⟩⟩
                      case measure => simp [intOf]; omega
                  · have e1b : (xa == fa) = false := by simp [e1]
                    have hns := HNS.out
                    rw [if_neg (fun q => e1 q.1)] at hns
                    have HNS2 := Aside0.mk hns
                    clear hns e1
                    go_upto_region 25 with (fail)
                    go_quiet (fail)
                    go_wp2
                    go_roundw
                    case rel => exact ⟨d + 1, ls, by go_num, by omega, rfl, ⟨by rw [HNS2.out]; exact HN.out⟩, ⟨T1.out⟩, ⟨T2.out.drewN _⟩, ⟨T3.out⟩⟩
                    case measure => simp [intOf]; omega
                · have hdb : decide ((d : Int) < (P.length : Int)) = false := decide_eq_false (by omega)
                  obtain rfl : d = P.length := by omega
                  have hls : ls = mi := by
                    rcases HN.out with ⟨q1, _⟩ | q1
                    · rw [HEM.out] at q1; omega
                    · rw [HEM.out] at q1; omega
                  subst hls
                  have HIR := Aside0.mk hIR
                  have HUV := T2
                  clear hIR hQF k0 k1
                  go_upto_region 28 with (first | (go_at_call 29; go_loud (refine (ref_without h mo P (lo + 1) A c ls z _ HIR.out hl hmi).mono ?_; rintro en w7 ⟨Al, cl, rfl, b1, b2⟩; have B1 := Aside0.mk b1; have B2 := Aside0.mk b2; clear b1 b2)))
                  have hpe : its (P.eraseIdx ls) = (its P).eraseIdx ls := its_erase P ls
                  have hpl2 : (P.eraseIdx ls).length ≤ 64 := by rw [List.length_eraseIdx]; split <;> omega
                  have hpv1 := HPV1.out
                  rw [← hpe] at hpv1
                  obtain ⟨KL, hKL⟩ : ∃ KL, P.eraseIdx ls = KL := ⟨_, rfl⟩
                  rw [hKL] at B1 hpl2 hpv1
                  have HPV := Aside0.mk hpv1
                  have HPL := Aside0.mk hpl2
                  refine wp_gen (fun W => IsR z W h mo KL (lo + 1) Al cl ∧ Upd (fun j => j = h) w W) ⟨B1.out, HUV.out.trans B2.out⟩ ?_
                  clear c1w HIR HUV B1 B2 hpl2 hpv1 hpe hKL QR QU QF HPV1 HEM HN hmi T1 T2 T3
                  rintro W ⟨q1, q2⟩
                  have QR := Aside0.mk q1
                  have QU := Aside0.mk q2
                  clear q1 q2
                  rcases own_form QR.out.2.2.1 with hw | hw
                  · obtain ⟨e1, e2, e3⟩ := hw
                    subst e1
                    cases S0 with
                    | none =>
                      have HP0 : Aside0 (KL = []) := ⟨List.eq_nil_of_length_eq_zero e2⟩
                      have c1w : W.cell? ⟨h, 1, none⟩ = some (.slice none 0 0) := by have := (blk_cell QR.out.1 1).trans rfl; rw [e2, e3] at this; exact this
                      clear e2 e3
                      have hs0 : s = [] := by
                        cases s with
                        | nil => rfl
                        | cons y s => obtain ⟨ad, e, _⟩ := C_cells (HC.out _ QU.out) (by simp); cases e
                      have HS0 := Aside0.mk hs0
                      have c2w : s.length = 0 := by rw [hs0]; rfl
                      rw [c2w]
                      clear hs0 c2w
                      obtain ⟨hi60, hz60, hs60, hb60⟩ := HZ60.out
                      obtain ⟨hi5, hz5, hs5, hb5⟩ := HZ5.out
                      have hone := rf_one QR.out.2.2.2
                      have HONE := Aside0.mk hone
                      have hpl := HPL.out
                      have HPUT := Aside0.mk HPV.out
                      clear hone
                      go_wp2_with (first | (at_builtin; go_loud (refine wpList_append_nil rfl (.tmp 156) (.tmp 160) 47 rfl W.heap.size 60 3 _ 0 [] rfl (own_empty W _ 60 3 (Nat.le_refl _)) 0 rfl Try.underlying47 hi60 ?_; intro v' w1 hown0 hgrow; have hown' : w1.ownsRow W.heap.size 60 3 v' KL.length (rf KL) := (by rw [HP0.out]; exact hown0); clear hown0; have b1 := below_app2 (n0 := 0) (below_alloc (Below.refl _ _) _) (own_empty W _ 60 3 (Nat.le_refl _)) hgrow; obtain ⟨Ap, cq, rfl⟩ := own_slice2 hown'; have O1 := Aside0.mk hown'; have B1 := Aside0.mk b1; have hw1 := b1.size; clear hown' hgrow b1)) | (at_builtin; go_loud (refine wpList_append_nil rfl (.tmp 164) (.tmp 165) 27 rfl W.heap.size 5 1 _ 0 [] rfl (own_empty w1 _ 5 1 hw1) cs rfl Try.underlying27 hi5 ?_; intro v' w2 hown0 hgrow; have hown' : w2.ownsRow W.heap.size 5 1 v' s.length (s.map (Value.int .u8)) := (by rw [HS0.out]; exact hown0); clear hown0; have b2 := below_app2 (n0 := 0) (below_alloc B1.out _) (own_empty w1 W.heap.size 5 1 hw1) hgrow; have hk1 := World.ownsRow.kept (World.ownsRow.kept O1.out (World.grownBy_alloc w1 (.cells #[] 5) none) (own_nn _)) hgrow (own_apart (World.ownsRow.kept O1.out (World.grownBy_alloc w1 (.cells #[] 5) none) (own_nn _)) (own_empty w1 W.heap.size 5 1 hw1) (by decide)); obtain ⟨Ab, cb, rfl⟩ := own_slice2 hown'; have O2 := Aside0.mk hown'; have B2 := Aside0.mk b2; have K1 := Aside0.mk hk1; have hw2 := b2.size; clear hown' hgrow b2 hk1)) | (at_builtin; go_loud (refine wpList_append_own _ rfl (.tmp 161) (.tmp 168) 47 rfl W.heap.size 60 i60 _ 3 40 Try.underlying47 hi60 hz60 hs60 hb60 rfl (by decide) _ _ _ rfl (World.ownsRow.kept K1.out (World.grownBy_alloc w2 (.cells #[.int .i64 a, .int .i64 b, .slice Ab s.length cb] 60) none) (own_nn _)) ⟨w2.heap.size, 0, none⟩ 1 1 [.int .i64 a, .int .i64 b, .slice Ab s.length cb] rfl rfl (cells_new w2 #[.int .i64 a, .int .i64 b, .slice Ab s.length cb] 60) (by simp [Value.oneCell']) (by unfold maxLen; omega) (by omega) (by simp; omega) ?_; intro v' w3 hown' hgrow _; have b3 := below_app2 (n0 := 0) (below_alloc B2.out _) (World.ownsRow.kept K1.out (World.grownBy_alloc w2 (.cells #[.int .i64 a, .int .i64 b, .slice Ab s.length cb] 60) none) (own_nn _)) hgrow; have ho2 := World.ownsRow.kept (World.ownsRow.kept O2.out (World.grownBy_alloc w2 (.cells #[.int .i64 a, .int .i64 b, .slice Ab s.length cb] 60) none) (own_nn _)) hgrow (own_apart (World.ownsRow.kept O2.out (World.grownBy_alloc w2 (.cells #[.int .i64 a, .int .i64 b, .slice Ab s.length cb] 60) none) (own_nn _)) (World.ownsRow.kept K1.out (World.grownBy_alloc w2 (.cells #[.int .i64 a, .int .i64 b, .slice Ab s.length cb] 60) none) (own_nn _)) (by decide)); obtain ⟨Aq, cz, rfl⟩ := own_slice2 hown'; have O3 := Aside0.mk hown'; have B3 := Aside0.mk b3; have OB := Aside0.mk ho2; have f3 : w3.frozen? ⟨h, 1, none⟩ = false := blk_frozen (QR.out.below b3).1 1; have c3 := cell_bel b3 c1w; clear hown' hgrow b3 ho2)))
                      go_ret
                      have hR := QR.out.below B3.out
                      have hgr := grownBy_setC w3 ⟨h, 1, none⟩ (.slice Aq (KL.length + 1) cz)
                      have hrf : rf KL ++ [.int .i64 a, .int .i64 b, .slice Ab s.length cb] = rf (KL ++ [((a, b, s), .slice Ab s.length cb)]) := by rw [rf_append]; rfl
                      have o3 := O3.out
                      rw [hrf] at o3
                      have hln : (KL ++ [((a, b, s), Value.slice Ab s.length cb)]).length = KL.length + 1 := by simp
                      have hzw : z.heap.size ≤ W.heap.size := by have := QR.out.2.1; have := blk_lt QR.out.1; omega
                      have hits : its (KL ++ [((a, b, s), Value.slice Ab s.length cb)]) = its KL ++ [(a, b, s)] := by unfold its; rw [List.map_append]; rfl
                      have hU : Upd (fun j => j = h) w (w3.setCell ⟨h, 1, none⟩ (.slice Aq (KL.length + 1) cz)) := Upd.setCell (S := fun j => j = h) (p := ⟨h, 1, none⟩) (upd_below QU.out B3.out) (Or.inl rfl) _
                      have hIs : IsR z (w3.setCell ⟨h, 1, none⟩ (.slice Aq (KL.length + 1) cz)) h mo (KL ++ [((a, b, s), .slice Ab s.length cb)]) (lo + 1) Aq cz := by
                        refine ⟨?_, hR.2.1, ?_, fun p hp => ?_⟩
                        · rw [hln]
                          exact blk_put hR.1 1 _ rfl
                        · rw [hln]
                          exact Go.Joins.ownsRow_le (o3.kept hgr (Or.inr (own_off o3 hR.1 (by decide)))) hzw
                        · rcases List.mem_append.1 hp with hp | hp
                          · have hb := hR.2.2.2 p hp
                            exact World.ownsRow.kept hb hgr (Or.inr (own_off hb hR.1 (by decide)))
                          · rw [List.mem_singleton.1 hp]
                            exact Go.Joins.ownsRow_le (OB.out.kept hgr (Or.inr (own_off OB.out hR.1 (by decide)))) hzw
                      rw [HPUT.out]
                      first | exact ⟨rfl, _, hits, ⟨Aq, cz, hIs⟩, hU⟩ | exact ⟨_, Aq, cz, rfl, hits, hIs, hU⟩
                    | some ad =>
                      have HP0 : Aside0 (KL = []) := ⟨List.eq_nil_of_length_eq_zero e2⟩
                      have c1w : W.cell? ⟨h, 1, none⟩ = some (.slice none 0 0) := by have := (blk_cell QR.out.1 1).trans rfl; rw [e2, e3] at this; exact this
                      clear e2 e3
                      have hbz := HV.out.2.2.2.2
                      obtain ⟨hi60, hz60, hs60, hb60⟩ := HZ60.out
                      obtain ⟨hi5, hz5, hs5, hb5⟩ := HZ5.out
                      have hone := rf_one QR.out.2.2.2
                      have HONE := Aside0.mk hone
                      have hpl := HPL.out
                      have HPUT := Aside0.mk HPV.out
                      clear hone
                      go_wp2_with (first | (at_builtin; go_loud (refine wpList_append_nil rfl (.tmp 156) (.tmp 160) 47 rfl W.heap.size 60 3 _ 0 [] rfl (own_empty W _ 60 3 (Nat.le_refl _)) 0 rfl Try.underlying47 hi60 ?_; intro v' w1 hown0 hgrow; have hown' : w1.ownsRow W.heap.size 60 3 v' KL.length (rf KL) := (by rw [HP0.out]; exact hown0); clear hown0; have b1 := below_app2 (n0 := 0) (below_alloc (Below.refl _ _) _) (own_empty W _ 60 3 (Nat.le_refl _)) hgrow; obtain ⟨Ap, cq, rfl⟩ := own_slice2 hown'; have O1 := Aside0.mk hown'; have B1 := Aside0.mk b1; have hw1 := b1.size; clear hown' hgrow b1)) | (at_builtin; go_loud (refine wpList_append_own _ rfl (.tmp 164) (.tmp 165) 27 rfl W.heap.size 5 i5 (.int .u8 0) 1 1 Try.underlying27 hi5 hz5 hs5 hb5 rfl (by decide) _ _ _ rfl (own_empty w1 _ 5 1 hw1) ad s.length cs (s.map (Value.int .u8)) rfl (by simp) (C_cells2 (C_below (HC.out _ (upd_below QU.out B1.out)) (below_alloc (Below.refl _ _) _))) (one_cells s) (by unfold maxLen; omega) (by omega) (by simp; omega) ?_; intro v' w2 hown' hgrow _; rw [Nat.zero_add, List.nil_append] at hown'; have b2 := below_app2 (n0 := 0) (below_alloc B1.out _) (own_empty w1 W.heap.size 5 1 hw1) hgrow; have hk1 := World.ownsRow.kept (World.ownsRow.kept O1.out (World.grownBy_alloc w1 (.cells #[] 5) none) (own_nn _)) hgrow (own_apart (World.ownsRow.kept O1.out (World.grownBy_alloc w1 (.cells #[] 5) none) (own_nn _)) (own_empty w1 W.heap.size 5 1 hw1) (by decide)); obtain ⟨Ab, cb, rfl⟩ := own_slice2 hown'; have O2 := Aside0.mk hown'; have B2 := Aside0.mk b2; have K1 := Aside0.mk hk1; have hw2 := b2.size; clear hown' hgrow b2 hk1)) | (at_builtin; go_loud (refine wpList_append_own _ rfl (.tmp 161) (.tmp 168) 47 rfl W.heap.size 60 i60 _ 3 40 Try.underlying47 hi60 hz60 hs60 hb60 rfl (by decide) _ _ _ rfl (World.ownsRow.kept K1.out (World.grownBy_alloc w2 (.cells #[.int .i64 a, .int .i64 b, .slice Ab s.length cb] 60) none) (own_nn _)) ⟨w2.heap.size, 0, none⟩ 1 1 [.int .i64 a, .int .i64 b, .slice Ab s.length cb] rfl rfl (cells_new w2 #[.int .i64 a, .int .i64 b, .slice Ab s.length cb] 60) (by simp [Value.oneCell']) (by unfold maxLen; omega) (by omega) (by simp; omega) ?_; intro v' w3 hown' hgrow _; have b3 := below_app2 (n0 := 0) (below_alloc B2.out _) (World.ownsRow.kept K1.out (World.grownBy_alloc w2 (.cells #[.int .i64 a, .int .i64 b, .slice Ab s.length cb] 60) none) (own_nn _)) hgrow; have ho2 := World.ownsRow.kept (World.ownsRow.kept O2.out (World.grownBy_alloc w2 (.cells #[.int .i64 a, .int .i64 b, .slice Ab s.length cb] 60) none) (own_nn _)) hgrow (own_apart (World.ownsRow.kept O2.out (World.grownBy_alloc w2 (.cells #[.int .i64 a, .int .i64 b, .slice Ab s.length cb] 60) none) (own_nn _)) (World.ownsRow.kept K1.out (World.grownBy_alloc w2 (.cells #[.int .i64 a, .int .i64 b, .slice Ab s.length cb] 60) none) (own_nn _)) (by decide)); obtain ⟨Aq, cz, rfl⟩ := own_slice2 hown'; have O3 := Aside0.mk hown'; have B3 := Aside0.mk b3; have OB := Aside0.mk ho2; have f3 : w3.frozen? ⟨h, 1, none⟩ = false := blk_frozen (QR.out.below b3).1 1; have c3 := cell_bel b3 c1w; clear hown' hgrow b3 ho2)))
                      go_ret
                      have hR := QR.out.below B3.out
                      have hgr := grownBy_setC w3 ⟨h, 1, none⟩ (.slice Aq (KL.length + 1) cz)
                      have hrf : rf KL ++ [.int .i64 a, .int .i64 b, .slice Ab s.length cb] = rf (KL ++ [((a, b, s), .slice Ab s.length cb)]) := by rw [rf_append]; rfl
                      have o3 := O3.out
                      rw [hrf] at o3
                      have hln : (KL ++ [((a, b, s), Value.slice Ab s.length cb)]).length = KL.length + 1 := by simp
                      have hzw : z.heap.size ≤ W.heap.size := by have := QR.out.2.1; have := blk_lt QR.out.1; omega
                      have hits : its (KL ++ [((a, b, s), Value.slice Ab s.length cb)]) = its KL ++ [(a, b, s)] := by unfold its; rw [List.map_append]; rfl
                      have hU : Upd (fun j => j = h) w (w3.setCell ⟨h, 1, none⟩ (.slice Aq (KL.length + 1) cz)) := Upd.setCell (S := fun j => j = h) (p := ⟨h, 1, none⟩) (upd_below QU.out B3.out) (Or.inl rfl) _
                      have hIs : IsR z (w3.setCell ⟨h, 1, none⟩ (.slice Aq (KL.length + 1) cz)) h mo (KL ++ [((a, b, s), .slice Ab s.length cb)]) (lo + 1) Aq cz := by
                        refine ⟨?_, hR.2.1, ?_, fun p hp => ?_⟩
                        · rw [hln]
                          exact blk_put hR.1 1 _ rfl
                        · rw [hln]
                          exact Go.Joins.ownsRow_le (o3.kept hgr (Or.inr (own_off o3 hR.1 (by decide)))) hzw
                        · rcases List.mem_append.1 hp with hp | hp
                          · have hb := hR.2.2.2 p hp
                            exact World.ownsRow.kept hb hgr (Or.inr (own_off hb hR.1 (by decide)))
                          · rw [List.mem_singleton.1 hp]
                            exact Go.Joins.ownsRow_le (OB.out.kept hgr (Or.inr (own_off OB.out hR.1 (by decide)))) hzw
                      rw [HPUT.out]
                      first | exact ⟨rfl, _, hits, ⟨Aq, cz, hIs⟩, hU⟩ | exact ⟨_, Aq, cz, rfl, hits, hIs, hU⟩
                  · obtain ⟨gr, e1, hkc, hcells⟩ := hw
                    subst e1
                    cases S0 with
                    | none =>
                      have c1w : W.cell? ⟨h, 1, none⟩ = some (.slice (some ⟨gr, 0, none⟩) KL.length cl) := (blk_cell QR.out.1 1).trans rfl
                      clear hkc hcells
                      have hs0 : s = [] := by
                        cases s with
                        | nil => rfl
                        | cons y s => obtain ⟨ad, e, _⟩ := C_cells (HC.out _ QU.out) (by simp); cases e
                      have HS0 := Aside0.mk hs0
                      have c2w : s.length = 0 := by rw [hs0]; rfl
                      rw [c2w]
                      clear hs0 c2w
                      obtain ⟨hi60, hz60, hs60, hb60⟩ := HZ60.out
                      obtain ⟨hi5, hz5, hs5, hb5⟩ := HZ5.out
                      have hone := rf_one QR.out.2.2.2
                      have HONE := Aside0.mk hone
                      have hpl := HPL.out
                      have HPUT := Aside0.mk HPV.out
                      clear hone
                      go_wp2_with (first | (at_builtin; go_loud (refine wpList_append_own _ rfl (.tmp 156) (.tmp 160) 47 rfl W.heap.size 60 i60 _ 3 40 Try.underlying47 hi60 hz60 hs60 hb60 rfl (by decide) _ _ _ rfl (own_empty W _ 60 3 (Nat.le_refl _)) ⟨gr, 0, none⟩ KL.length cl (rf KL) rfl (rf_len _) (rcells (World.ownsRow.kept QR.out.2.2.1 (World.grownBy_alloc _ _ none) (by simp [Value.ownBlock])) 0 _ (fun j u hj => by rw [Nat.zero_add]; exact hj)) (fun u hu => HONE.out u hu) (by unfold maxLen; omega) (by omega) (by simp) ?_; intro v' w1 hown' hgrow _; rw [Nat.zero_add, List.nil_append] at hown'; have b1 := below_app2 (n0 := 0) (below_alloc (Below.refl _ _) _) (own_empty W _ 60 3 (Nat.le_refl _)) hgrow; obtain ⟨Ap, cq, rfl⟩ := own_slice2 hown'; have O1 := Aside0.mk hown'; have B1 := Aside0.mk b1; have hw1 := b1.size; clear hown' hgrow b1)) | (at_builtin; go_loud (refine wpList_append_nil rfl (.tmp 164) (.tmp 165) 27 rfl W.heap.size 5 1 _ 0 [] rfl (own_empty w1 _ 5 1 hw1) cs rfl Try.underlying27 hi5 ?_; intro v' w2 hown0 hgrow; have hown' : w2.ownsRow W.heap.size 5 1 v' s.length (s.map (Value.int .u8)) := (by rw [HS0.out]; exact hown0); clear hown0; have b2 := below_app2 (n0 := 0) (below_alloc B1.out _) (own_empty w1 W.heap.size 5 1 hw1) hgrow; have hk1 := World.ownsRow.kept (World.ownsRow.kept O1.out (World.grownBy_alloc w1 (.cells #[] 5) none) (own_nn _)) hgrow (own_apart (World.ownsRow.kept O1.out (World.grownBy_alloc w1 (.cells #[] 5) none) (own_nn _)) (own_empty w1 W.heap.size 5 1 hw1) (by decide)); obtain ⟨Ab, cb, rfl⟩ := own_slice2 hown'; have O2 := Aside0.mk hown'; have B2 := Aside0.mk b2; have K1 := Aside0.mk hk1; have hw2 := b2.size; clear hown' hgrow b2 hk1)) | (at_builtin; go_loud (refine wpList_append_own _ rfl (.tmp 161) (.tmp 168) 47 rfl W.heap.size 60 i60 _ 3 40 Try.underlying47 hi60 hz60 hs60 hb60 rfl (by decide) _ _ _ rfl (World.ownsRow.kept K1.out (World.grownBy_alloc w2 (.cells #[.int .i64 a, .int .i64 b, .slice Ab s.length cb] 60) none) (own_nn _)) ⟨w2.heap.size, 0, none⟩ 1 1 [.int .i64 a, .int .i64 b, .slice Ab s.length cb] rfl rfl (cells_new w2 #[.int .i64 a, .int .i64 b, .slice Ab s.length cb] 60) (by simp [Value.oneCell']) (by unfold maxLen; omega) (by omega) (by simp; omega) ?_; intro v' w3 hown' hgrow _; have b3 := below_app2 (n0 := 0) (below_alloc B2.out _) (World.ownsRow.kept K1.out (World.grownBy_alloc w2 (.cells #[.int .i64 a, .int .i64 b, .slice Ab s.length cb] 60) none) (own_nn _)) hgrow; have ho2 := World.ownsRow.kept (World.ownsRow.kept O2.out (World.grownBy_alloc w2 (.cells #[.int .i64 a, .int .i64 b, .slice Ab s.length cb] 60) none) (own_nn _)) hgrow (own_apart (World.ownsRow.kept O2.out (World.grownBy_alloc w2 (.cells #[.int .i64 a, .int .i64 b, .slice Ab s.length cb] 60) none) (own_nn _)) (World.ownsRow.kept K1.out (World.grownBy_alloc w2 (.cells #[.int .i64 a, .int .i64 b, .slice Ab s.length cb] 60) none) (own_nn _)) (by decide)); obtain ⟨Aq, cz, rfl⟩ := own_slice2 hown'; have O3 := Aside0.mk hown'; have B3 := Aside0.mk b3; have OB := Aside0.mk ho2; have f3 : w3.frozen? ⟨h, 1, none⟩ = false := blk_frozen (QR.out.below b3).1 1; have c3 := cell_bel b3 c1w; clear hown' hgrow b3 ho2)))
                      go_ret
                      have hR := QR.out.below B3.out
                      have hgr := grownBy_setC w3 ⟨h, 1, none⟩ (.slice Aq (KL.length + 1) cz)
                      have hrf : rf KL ++ [.int .i64 a, .int .i64 b, .slice Ab s.length cb] = rf (KL ++ [((a, b, s), .slice Ab s.length cb)]) := by rw [rf_append]; rfl
                      have o3 := O3.out
                      rw [hrf] at o3
                      have hln : (KL ++ [((a, b, s), Value.slice Ab s.length cb)]).length = KL.length + 1 := by simp
                      have hzw : z.heap.size ≤ W.heap.size := by have := QR.out.2.1; have := blk_lt QR.out.1; omega
                      have hits : its (KL ++ [((a, b, s), Value.slice Ab s.length cb)]) = its KL ++ [(a, b, s)] := by unfold its; rw [List.map_append]; rfl
                      have hU : Upd (fun j => j = h) w (w3.setCell ⟨h, 1, none⟩ (.slice Aq (KL.length + 1) cz)) := Upd.setCell (S := fun j => j = h) (p := ⟨h, 1, none⟩) (upd_below QU.out B3.out) (Or.inl rfl) _
                      have hIs : IsR z (w3.setCell ⟨h, 1, none⟩ (.slice Aq (KL.length + 1) cz)) h mo (KL ++ [((a, b, s), .slice Ab s.length cb)]) (lo + 1) Aq cz := by
                        refine ⟨?_, hR.2.1, ?_, fun p hp => ?_⟩
                        · rw [hln]
                          exact blk_put hR.1 1 _ rfl
                        · rw [hln]
                          exact Go.Joins.ownsRow_le (o3.kept hgr (Or.inr (own_off o3 hR.1 (by decide)))) hzw
                        · rcases List.mem_append.1 hp with hp | hp
                          · have hb := hR.2.2.2 p hp
                            exact World.ownsRow.kept hb hgr (Or.inr (own_off hb hR.1 (by decide)))
                          · rw [List.mem_singleton.1 hp]
                            exact Go.Joins.ownsRow_le (OB.out.kept hgr (Or.inr (own_off OB.out hR.1 (by decide)))) hzw
                      rw [HPUT.out]
                      first | exact ⟨rfl, _, hits, ⟨Aq, cz, hIs⟩, hU⟩ | exact ⟨_, Aq, cz, rfl, hits, hIs, hU⟩
                    | some ad =>
                      have c1w : W.cell? ⟨h, 1, none⟩ = some (.slice (some ⟨gr, 0, none⟩) KL.length cl) := (blk_cell QR.out.1 1).trans rfl
                      clear hkc hcells
                      have hbz := HV.out.2.2.2.2
                      obtain ⟨hi60, hz60, hs60, hb60⟩ := HZ60.out
                      obtain ⟨hi5, hz5, hs5, hb5⟩ := HZ5.out
                      have hone := rf_one QR.out.2.2.2
                      have HONE := Aside0.mk hone
                      have hpl := HPL.out
                      have HPUT := Aside0.mk HPV.out
                      clear hone
                      go_wp2_with (first | (at_builtin; go_loud (refine wpList_append_own _ rfl (.tmp 156) (.tmp 160) 47 rfl W.heap.size 60 i60 _ 3 40 Try.underlying47 hi60 hz60 hs60 hb60 rfl (by decide) _ _ _ rfl (own_empty W _ 60 3 (Nat.le_refl _)) ⟨gr, 0, none⟩ KL.length cl (rf KL) rfl (rf_len _) (rcells (World.ownsRow.kept QR.out.2.2.1 (World.grownBy_alloc _ _ none) (by simp [Value.ownBlock])) 0 _ (fun j u hj => by rw [Nat.zero_add]; exact hj)) (fun u hu => HONE.out u hu) (by unfold maxLen; omega) (by omega) (by simp) ?_; intro v' w1 hown' hgrow _; rw [Nat.zero_add, List.nil_append] at hown'; have b1 := below_app2 (n0 := 0) (below_alloc (Below.refl _ _) _) (own_empty W _ 60 3 (Nat.le_refl _)) hgrow; obtain ⟨Ap, cq, rfl⟩ := own_slice2 hown'; have O1 := Aside0.mk hown'; have B1 := Aside0.mk b1; have hw1 := b1.size; clear hown' hgrow b1)) | (at_builtin; go_loud (refine wpList_append_own _ rfl (.tmp 164) (.tmp 165) 27 rfl W.heap.size 5 i5 (.int .u8 0) 1 1 Try.underlying27 hi5 hz5 hs5 hb5 rfl (by decide) _ _ _ rfl (own_empty w1 _ 5 1 hw1) ad s.length cs (s.map (Value.int .u8)) rfl (by simp) (C_cells2 (C_below (HC.out _ (upd_below QU.out B1.out)) (below_alloc (Below.refl _ _) _))) (one_cells s) (by unfold maxLen; omega) (by omega) (by simp; omega) ?_; intro v' w2 hown' hgrow _; rw [Nat.zero_add, List.nil_append] at hown'; have b2 := below_app2 (n0 := 0) (below_alloc B1.out _) (own_empty w1 W.heap.size 5 1 hw1) hgrow; have hk1 := World.ownsRow.kept (World.ownsRow.kept O1.out (World.grownBy_alloc w1 (.cells #[] 5) none) (own_nn _)) hgrow (own_apart (World.ownsRow.kept O1.out (World.grownBy_alloc w1 (.cells #[] 5) none) (own_nn _)) (own_empty w1 W.heap.size 5 1 hw1) (by decide)); obtain ⟨Ab, cb, rfl⟩ := own_slice2 hown'; have O2 := Aside0.mk hown'; have B2 := Aside0.mk b2; have K1 := Aside0.mk hk1; have hw2 := b2.size; clear hown' hgrow b2 hk1)) | (at_builtin; go_loud (refine wpList_append_own _ rfl (.tmp 161) (.tmp 168) 47 rfl W.heap.size 60 i60 _ 3 40 Try.underlying47 hi60 hz60 hs60 hb60 rfl (by decide) _ _ _ rfl (World.ownsRow.kept K1.out (World.grownBy_alloc w2 (.cells #[.int .i64 a, .int .i64 b, .slice Ab s.length cb] 60) none) (own_nn _)) ⟨w2.heap.size, 0, none⟩ 1 1 [.int .i64 a, .int .i64 b, .slice Ab s.length cb] rfl rfl (cells_new w2 #[.int .i64 a, .int .i64 b, .slice Ab s.length cb] 60) (by simp [Value.oneCell']) (by unfold maxLen; omega) (by omega) (by simp; omega) ?_; intro v' w3 hown' hgrow _; have b3 := below_app2 (n0 := 0) (below_alloc B2.out _) (World.ownsRow.kept K1.out (World.grownBy_alloc w2 (.cells #[.int .i64 a, .int .i64 b, .slice Ab s.length cb] 60) none) (own_nn _)) hgrow; have ho2 := World.ownsRow.kept (World.ownsRow.kept O2.out (World.grownBy_alloc w2 (.cells #[.int .i64 a, .int .i64 b, .slice Ab s.length cb] 60) none) (own_nn _)) hgrow (own_apart (World.ownsRow.kept O2.out (World.grownBy_alloc w2 (.cells #[.int .i64 a, .int .i64 b, .slice Ab s.length cb] 60) none) (own_nn _)) (World.ownsRow.kept K1.out (World.grownBy_alloc w2 (.cells #[.int .i64 a, .int .i64 b, .slice Ab s.length cb] 60) none) (own_nn _)) (by decide)); obtain ⟨Aq, cz, rfl⟩ := own_slice2 hown'; have O3 := Aside0.mk hown'; have B3 := Aside0.mk b3; have OB := Aside0.mk ho2; have f3 : w3.frozen? ⟨h, 1, none⟩ = false := blk_frozen (QR.out.below b3).1 1; have c3 := cell_bel b3 c1w; clear hown' hgrow b3 ho2)))
                      go_ret
                      have hR := QR.out.below B3.out
                      have hgr := grownBy_setC w3 ⟨h, 1, none⟩ (.slice Aq (KL.length + 1) cz)
                      have hrf : rf KL ++ [.int .i64 a, .int .i64 b, .slice Ab s.length cb] = rf (KL ++ [((a, b, s), .slice Ab s.length cb)]) := by rw [rf_append]; rfl
                      have o3 := O3.out
                      rw [hrf] at o3
                      have hln : (KL ++ [((a, b, s), Value.slice Ab s.length cb)]).length = KL.length + 1 := by simp
                      have hzw : z.heap.size ≤ W.heap.size := by have := QR.out.2.1; have := blk_lt QR.out.1; omega
                      have hits : its (KL ++ [((a, b, s), Value.slice Ab s.length cb)]) = its KL ++ [(a, b, s)] := by unfold its; rw [List.map_append]; rfl
                      have hU : Upd (fun j => j = h) w (w3.setCell ⟨h, 1, none⟩ (.slice Aq (KL.length + 1) cz)) := Upd.setCell (S := fun j => j = h) (p := ⟨h, 1, none⟩) (upd_below QU.out B3.out) (Or.inl rfl) _
                      have hIs : IsR z (w3.setCell ⟨h, 1, none⟩ (.slice Aq (KL.length + 1) cz)) h mo (KL ++ [((a, b, s), .slice Ab s.length cb)]) (lo + 1) Aq cz := by
                        refine ⟨?_, hR.2.1, ?_, fun p hp => ?_⟩
                        · rw [hln]
                          exact blk_put hR.1 1 _ rfl
                        · rw [hln]
                          exact Go.Joins.ownsRow_le (o3.kept hgr (Or.inr (own_off o3 hR.1 (by decide)))) hzw
                        · rcases List.mem_append.1 hp with hp | hp
                          · have hb := hR.2.2.2 p hp
                            exact World.ownsRow.kept hb hgr (Or.inr (own_off hb hR.1 (by decide)))
                          · rw [List.mem_singleton.1 hp]
                            exact Go.Joins.ownsRow_le (OB.out.kept hgr (Or.inr (own_off OB.out hR.1 (by decide)))) hzw
                      rw [HPUT.out]
                      first | exact ⟨rfl, _, hits, ⟨Aq, cz, hIs⟩, hU⟩ | exact ⟨_, Aq, cz, rfl, hits, hIs, hU⟩
      · have hfb : decide (mo ≤ (P.length : Int)) = false := decide_eq_false hf
        have hpv := HP.out
        rw [if_neg hf] at hpv
        have HPV := Aside0.mk hpv
        have HPL := Aside0.mk hl
        clear hpv
        go_upto_region 8 with (fail)
        go_quiet (fail)
        go_upto_region 28 with (fail)
        refine wp_gen (fun W => IsR z W h mo P lo A c ∧ Upd (fun j => j = h) w W) ⟨HK.out.below (pw_below_drewN P1.out _), Upd.of_below (pw_below_drewN P1.out _)⟩ ?_
        clear c0w c1w P1
        rintro W ⟨q1, q2⟩
        have QR := Aside0.mk q1
        have QU := Aside0.mk q2
        clear q1 q2
        rcases own_form QR.out.2.2.1 with hw | hw
        · obtain ⟨e1, e2, e3⟩ := hw
          subst e1
          cases S0 with
          | none =>
            have HP0 : Aside0 (P = []) := ⟨List.eq_nil_of_length_eq_zero e2⟩
            have c1w : W.cell? ⟨h, 1, none⟩ = some (.slice none 0 0) := by have := (blk_cell QR.out.1 1).trans rfl; rw [e2, e3] at this; exact this
            clear e2 e3
            have hs0 : s = [] := by
              cases s with
              | nil => rfl
              | cons y s => obtain ⟨ad, e, _⟩ := C_cells (HC.out _ QU.out) (by simp); cases e
            have HS0 := Aside0.mk hs0
            have c2w : s.length = 0 := by rw [hs0]; rfl
            rw [c2w]
            clear hs0 c2w
            obtain ⟨hi60, hz60, hs60, hb60⟩ := HZ60.out
            obtain ⟨hi5, hz5, hs5, hb5⟩ := HZ5.out
            have hone := rf_one QR.out.2.2.2
            have HONE := Aside0.mk hone
            have hpl := HPL.out
            have HPUT := Aside0.mk HPV.out
            clear hone
            go_wp2_with (first | (at_builtin; go_loud (refine wpList_append_nil rfl (.tmp 156) (.tmp 160) 47 rfl W.heap.size 60 3 _ 0 [] rfl (own_empty W _ 60 3 (Nat.le_refl _)) 0 rfl Try.underlying47 hi60 ?_; intro v' w1 hown0 hgrow; have hown' : w1.ownsRow W.heap.size 60 3 v' P.length (rf P) := (by rw [HP0.out]; exact hown0); clear hown0; have b1 := below_app2 (n0 := 0) (below_alloc (Below.refl _ _) _) (own_empty W _ 60 3 (Nat.le_refl _)) hgrow; obtain ⟨Ap, cq, rfl⟩ := own_slice2 hown'; have O1 := Aside0.mk hown'; have B1 := Aside0.mk b1; have hw1 := b1.size; clear hown' hgrow b1)) | (at_builtin; go_loud (refine wpList_append_nil rfl (.tmp 164) (.tmp 165) 27 rfl W.heap.size 5 1 _ 0 [] rfl (own_empty w1 _ 5 1 hw1) cs rfl Try.underlying27 hi5 ?_; intro v' w2 hown0 hgrow; have hown' : w2.ownsRow W.heap.size 5 1 v' s.length (s.map (Value.int .u8)) := (by rw [HS0.out]; exact hown0); clear hown0; have b2 := below_app2 (n0 := 0) (below_alloc B1.out _) (own_empty w1 W.heap.size 5 1 hw1) hgrow; have hk1 := World.ownsRow.kept (World.ownsRow.kept O1.out (World.grownBy_alloc w1 (.cells #[] 5) none) (own_nn _)) hgrow (own_apart (World.ownsRow.kept O1.out (World.grownBy_alloc w1 (.cells #[] 5) none) (own_nn _)) (own_empty w1 W.heap.size 5 1 hw1) (by decide)); obtain ⟨Ab, cb, rfl⟩ := own_slice2 hown'; have O2 := Aside0.mk hown'; have B2 := Aside0.mk b2; have K1 := Aside0.mk hk1; have hw2 := b2.size; clear hown' hgrow b2 hk1)) | (at_builtin; go_loud (refine wpList_append_own _ rfl (.tmp 161) (.tmp 168) 47 rfl W.heap.size 60 i60 _ 3 40 Try.underlying47 hi60 hz60 hs60 hb60 rfl (by decide) _ _ _ rfl (World.ownsRow.kept K1.out (World.grownBy_alloc w2 (.cells #[.int .i64 a, .int .i64 b, .slice Ab s.length cb] 60) none) (own_nn _)) ⟨w2.heap.size, 0, none⟩ 1 1 [.int .i64 a, .int .i64 b, .slice Ab s.length cb] rfl rfl (cells_new w2 #[.int .i64 a, .int .i64 b, .slice Ab s.length cb] 60) (by simp [Value.oneCell']) (by unfold maxLen; omega) (by omega) (by simp; omega) ?_; intro v' w3 hown' hgrow _; have b3 := below_app2 (n0 := 0) (below_alloc B2.out _) (World.ownsRow.kept K1.out (World.grownBy_alloc w2 (.cells #[.int .i64 a, .int .i64 b, .slice Ab s.length cb] 60) none) (own_nn _)) hgrow; have ho2 := World.ownsRow.kept (World.ownsRow.kept O2.out (World.grownBy_alloc w2 (.cells #[.int .i64 a, .int .i64 b, .slice Ab s.length cb] 60) none) (own_nn _)) hgrow (own_apart (World.ownsRow.kept O2.out (World.grownBy_alloc w2 (.cells #[.int .i64 a, .int .i64 b, .slice Ab s.length cb] 60) none) (own_nn _)) (World.ownsRow.kept K1.out (World.grownBy_alloc w2 (.cells #[.int .i64 a, .int .i64 b, .slice Ab s.length cb] 60) none) (own_nn _)) (by decide)); obtain ⟨Aq, cz, rfl⟩ := own_slice2 hown'; have O3 := Aside0.mk hown'; have B3 := Aside0.mk b3; have OB := Aside0.mk ho2; have f3 : w3.frozen? ⟨h, 1, none⟩ = false := blk_frozen (QR.out.below b3).1 1; have c3 := cell_bel b3 c1w; clear hown' hgrow b3 ho2)))
            go_ret
            have hR := QR.out.below B3.out
            have hgr := grownBy_setC w3 ⟨h, 1, none⟩ (.slice Aq (P.length + 1) cz)
            have hrf : rf P ++ [.int .i64 a, .int .i64 b, .slice Ab s.length cb] = rf (P ++ [((a, b, s), .slice Ab s.length cb)]) := by rw [rf_append]; rfl
            have o3 := O3.out
            rw [hrf] at o3
            have hln : (P ++ [((a, b, s), Value.slice Ab s.length cb)]).length = P.length + 1 := by simp
            have hzw : z.heap.size ≤ W.heap.size := by have := QR.out.2.1; have := blk_lt QR.out.1; omega
            have hits : its (P ++ [((a, b, s), Value.slice Ab s.length cb)]) = its P ++ [(a, b, s)] := by unfold its; rw [List.map_append]; rfl
            have hU : Upd (fun j => j = h) w (w3.setCell ⟨h, 1, none⟩ (.slice Aq (P.length + 1) cz)) := Upd.setCell (S := fun j => j = h) (p := ⟨h, 1, none⟩) (upd_below QU.out B3.out) (Or.inl rfl) _
            have hIs : IsR z (w3.setCell ⟨h, 1, none⟩ (.slice Aq (P.length + 1) cz)) h mo (P ++ [((a, b, s), .slice Ab s.length cb)]) lo Aq cz := by
              refine ⟨?_, hR.2.1, ?_, fun p hp => ?_⟩
              · rw [hln]
                exact blk_put hR.1 1 _ rfl
              · rw [hln]
                exact Go.Joins.ownsRow_le (o3.kept hgr (Or.inr (own_off o3 hR.1 (by decide)))) hzw
              · rcases List.mem_append.1 hp with hp | hp
                · have hb := hR.2.2.2 p hp
                  exact World.ownsRow.kept hb hgr (Or.inr (own_off hb hR.1 (by decide)))
                · rw [List.mem_singleton.1 hp]
                  exact Go.Joins.ownsRow_le (OB.out.kept hgr (Or.inr (own_off OB.out hR.1 (by decide)))) hzw
            rw [HPUT.out]
            first | exact ⟨rfl, _, hits, ⟨Aq, cz, hIs⟩, hU⟩ | exact ⟨_, Aq, cz, rfl, hits, hIs, hU⟩
          | some ad =>
            have HP0 : Aside0 (P = []) := ⟨List.eq_nil_of_length_eq_zero e2⟩
            have c1w : W.cell? ⟨h, 1, none⟩ = some (.slice none 0 0) := by have := (blk_cell QR.out.1 1).trans rfl; rw [e2, e3] at this; exact this
            clear e2 e3
            have hbz := HV.out.2.2.2.2
            obtain ⟨hi60, hz60, hs60, hb60⟩ := HZ60.out
            obtain ⟨hi5, hz5, hs5, hb5⟩ := HZ5.out
            have hone := rf_one QR.out.2.2.2
            have HONE := Aside0.mk hone
            have hpl := HPL.out
            have HPUT := Aside0.mk HPV.out
            clear hone
            go_wp2_with (first | (at_builtin; go_loud (refine wpList_append_nil rfl (.tmp 156) (.tmp 160) 47 rfl W.heap.size 60 3 _ 0 [] rfl (own_empty W _ 60 3 (Nat.le_refl _)) 0 rfl Try.underlying47 hi60 ?_; intro v' w1 hown0 hgrow; have hown' : w1.ownsRow W.heap.size 60 3 v' P.length (rf P) := (by rw [HP0.out]; exact hown0); clear hown0; have b1 := below_app2 (n0 := 0) (below_alloc (Below.refl _ _) _) (own_empty W _ 60 3 (Nat.le_refl _)) hgrow; obtain ⟨Ap, cq, rfl⟩ := own_slice2 hown'; have O1 := Aside0.mk hown'; have B1 := Aside0.mk b1; have hw1 := b1.size; clear hown' hgrow b1)) | (at_builtin; go_loud (refine wpList_append_own _ rfl (.tmp 164) (.tmp 165) 27 rfl W.heap.size 5 i5 (.int .u8 0) 1 1 Try.underlying27 hi5 hz5 hs5 hb5 rfl (by decide) _ _ _ rfl (own_empty w1 _ 5 1 hw1) ad s.length cs (s.map (Value.int .u8)) rfl (by simp) (C_cells2 (C_below (HC.out _ (upd_below QU.out B1.out)) (below_alloc (Below.refl _ _) _))) (one_cells s) (by unfold maxLen; omega) (by omega) (by simp; omega) ?_; intro v' w2 hown' hgrow _; rw [Nat.zero_add, List.nil_append] at hown'; have b2 := below_app2 (n0 := 0) (below_alloc B1.out _) (own_empty w1 W.heap.size 5 1 hw1) hgrow; have hk1 := World.ownsRow.kept (World.ownsRow.kept O1.out (World.grownBy_alloc w1 (.cells #[] 5) none) (own_nn _)) hgrow (own_apart (World.ownsRow.kept O1.out (World.grownBy_alloc w1 (.cells #[] 5) none) (own_nn _)) (own_empty w1 W.heap.size 5 1 hw1) (by decide)); obtain ⟨Ab, cb, rfl⟩ := own_slice2 hown'; have O2 := Aside0.mk hown'; have B2 := Aside0.mk b2; have K1 := Aside0.mk hk1; have hw2 := b2.size; clear hown' hgrow b2 hk1)) | (at_builtin; go_loud (refine wpList_append_own _ rfl (.tmp 161) (.tmp 168) 47 rfl W.heap.size 60 i60 _ 3 40 Try.underlying47 hi60 hz60 hs60 hb60 rfl (by decide) _ _ _ rfl (World.ownsRow.kept K1.out (World.grownBy_alloc w2 (.cells #[.int .i64 a, .int .i64 b, .slice Ab s.length cb] 60) none) (own_nn _)) ⟨w2.heap.size, 0, none⟩ 1 1 [.int .i64 a, .int .i64 b, .slice Ab s.length cb] rfl rfl (cells_new w2 #[.int .i64 a, .int .i64 b, .slice Ab s.length cb] 60) (by simp [Value.oneCell']) (by unfold maxLen; omega) (by omega) (by simp; omega) ?_; intro v' w3 hown' hgrow _; have b3 := below_app2 (n0 := 0) (below_alloc B2.out _) (World.ownsRow.kept K1.out (World.grownBy_alloc w2 (.cells #[.int .i64 a, .int .i64 b, .slice Ab s.length cb] 60) none) (own_nn _)) hgrow; have ho2 := World.ownsRow.kept (World.ownsRow.kept O2.out (World.grownBy_alloc w2 (.cells #[.int .i64 a, .int .i64 b, .slice Ab s.length cb] 60) none) (own_nn _)) hgrow (own_apart (World.ownsRow.kept O2.out (World.grownBy_alloc w2 (.cells #[.int .i64 a, .int .i64 b, .slice Ab s.length cb] 60) none) (own_nn _)) (World.ownsRow.kept K1.out (World.grownBy_alloc w2 (.cells #[.int .i64 a, .int .i64 b, .slice Ab s.length cb] 60) none) (own_nn _)) (by decide)); obtain ⟨Aq, cz, rfl⟩ := own_slice2 hown'; have O3 := Aside0.mk hown'; have B3 := Aside0.mk b3; have OB := Aside0.mk ho2; have f3 : w3.frozen? ⟨h, 1, none⟩ = false := blk_frozen (QR.out.below b3).1 1; have c3 := cell_bel b3 c1w; clear hown' hgrow b3 ho2)))
            go_ret
            have hR := QR.out.below B3.out
            have hgr := grownBy_setC w3 ⟨h, 1, none⟩ (.slice Aq (P.length + 1) cz)
            have hrf : rf P ++ [.int .i64 a, .int .i64 b, .slice Ab s.length cb] = rf (P ++ [((a, b, s), .slice Ab s.length cb)]) := by rw [rf_append]; rfl
            have o3 := O3.out
            rw [hrf] at o3
            have hln : (P ++ [((a, b, s), Value.slice Ab s.length cb)]).length = P.length + 1 := by simp
            have hzw : z.heap.size ≤ W.heap.size := by have := QR.out.2.1; have := blk_lt QR.out.1; omega
            have hits : its (P ++ [((a, b, s), Value.slice Ab s.length cb)]) = its P ++ [(a, b, s)] := by unfold its; rw [List.map_append]; rfl
            have hU : Upd (fun j => j = h) w (w3.setCell ⟨h, 1, none⟩ (.slice Aq (P.length + 1) cz)) := Upd.setCell (S := fun j => j = h) (p := ⟨h, 1, none⟩) (upd_below QU.out B3.out) (Or.inl rfl) _
            have hIs : IsR z (w3.setCell ⟨h, 1, none⟩ (.slice Aq (P.length + 1) cz)) h mo (P ++ [((a, b, s), .slice Ab s.length cb)]) lo Aq cz := by
              refine ⟨?_, hR.2.1, ?_, fun p hp => ?_⟩
              · rw [hln]
                exact blk_put hR.1 1 _ rfl
              · rw [hln]
                exact Go.Joins.ownsRow_le (o3.kept hgr (Or.inr (own_off o3 hR.1 (by decide)))) hzw
              · rcases List.mem_append.1 hp with hp | hp
                · have hb := hR.2.2.2 p hp
                  exact World.ownsRow.kept hb hgr (Or.inr (own_off hb hR.1 (by decide)))
                · rw [List.mem_singleton.1 hp]
                  exact Go.Joins.ownsRow_le (OB.out.kept hgr (Or.inr (own_off OB.out hR.1 (by decide)))) hzw
            rw [HPUT.out]
            first | exact ⟨rfl, _, hits, ⟨Aq, cz, hIs⟩, hU⟩ | exact ⟨_, Aq, cz, rfl, hits, hIs, hU⟩
        · obtain ⟨gr, e1, hkc, hcells⟩ := hw
          subst e1
          cases S0 with
          | none =>
            have c1w : W.cell? ⟨h, 1, none⟩ = some (.slice (some ⟨gr, 0, none⟩) P.length c) := (blk_cell QR.out.1 1).trans rfl
            clear hkc hcells
            have hs0 : s = [] := by
              cases s with
              | nil => rfl
              | cons y s => obtain ⟨ad, e, _⟩ := C_cells (HC.out _ QU.out) (by simp); cases e
            have HS0 := Aside0.mk hs0
            have c2w : s.length = 0 := by rw [hs0]; rfl
            rw [c2w]
            clear hs0 c2w
            obtain ⟨hi60, hz60, hs60, hb60⟩ := HZ60.out
            obtain ⟨hi5, hz5, hs5, hb5⟩ := HZ5.out
            have hone := rf_one QR.out.2.2.2
            have HONE := Aside0.mk hone
            have hpl := HPL.out
            have HPUT := Aside0.mk HPV.out
            clear hone
            go_wp2_with (first | (at_builtin; go_loud (refine wpList_append_own _ rfl (.tmp 156) (.tmp 160) 47 rfl W.heap.size 60 i60 _ 3 40 Try.underlying47 hi60 hz60 hs60 hb60 rfl (by decide) _ _ _ rfl (own_empty W _ 60 3 (Nat.le_refl _)) ⟨gr, 0, none⟩ P.length c (rf P) rfl (rf_len _) (rcells (World.ownsRow.kept QR.out.2.2.1 (World.grownBy_alloc _ _ none) (by simp [Value.ownBlock])) 0 _ (fun j u hj => by rw [Nat.zero_add]; exact hj)) (fun u hu => HONE.out u hu) (by unfold maxLen; omega) (by omega) (by simp) ?_; intro v' w1 hown' hgrow _; rw [Nat.zero_add, List.nil_append] at hown'; have b1 := below_app2 (n0 := 0) (below_alloc (Below.refl _ _) _) (own_empty W _ 60 3 (Nat.le_refl _)) hgrow; obtain ⟨Ap, cq, rfl⟩ := own_slice2 hown'; have O1 := Aside0.mk hown'; have B1 := Aside0.mk b1; have hw1 := b1.size; clear hown' hgrow b1)) | (at_builtin; go_loud (refine wpList_append_nil rfl (.tmp 164) (.tmp 165) 27 rfl W.heap.size 5 1 _ 0 [] rfl (own_empty w1 _ 5 1 hw1) cs rfl Try.underlying27 hi5 ?_; intro v' w2 hown0 hgrow; have hown' : w2.ownsRow W.heap.size 5 1 v' s.length (s.map (Value.int .u8)) := (by rw [HS0.out]; exact hown0); clear hown0; have b2 := below_app2 (n0 := 0) (below_alloc B1.out _) (own_empty w1 W.heap.size 5 1 hw1) hgrow; have hk1 := World.ownsRow.kept (World.ownsRow.kept O1.out (World.grownBy_alloc w1 (.cells #[] 5) none) (own_nn _)) hgrow (own_apart (World.ownsRow.kept O1.out (World.grownBy_alloc w1 (.cells #[] 5) none) (own_nn _)) (own_empty w1 W.heap.size 5 1 hw1) (by decide)); obtain ⟨Ab, cb, rfl⟩ := own_slice2 hown'; have O2 := Aside0.mk hown'; have B2 := Aside0.mk b2; have K1 := Aside0.mk hk1; have hw2 := b2.size; clear hown' hgrow b2 hk1)) | (at_builtin; go_loud (refine wpList_append_own _ rfl (.tmp 161) (.tmp 168) 47 rfl W.heap.size 60 i60 _ 3 40 Try.underlying47 hi60 hz60 hs60 hb60 rfl (by decide) _ _ _ rfl (World.ownsRow.kept K1.out (World.grownBy_alloc w2 (.cells #[.int .i64 a, .int .i64 b, .slice Ab s.length cb] 60) none) (own_nn _)) ⟨w2.heap.size, 0, none⟩ 1 1 [.int .i64 a, .int .i64 b, .slice Ab s.length cb] rfl rfl (cells_new w2 #[.int .i64 a, .int .i64 b, .slice Ab s.length cb] 60) (by simp [Value.oneCell']) (by unfold maxLen; omega) (by omega) (by simp; omega) ?_; intro v' w3 hown' hgrow _; have b3 := below_app2 (n0 := 0) (below_alloc B2.out _) (World.ownsRow.kept K1.out (World.grownBy_alloc w2 (.cells #[.int .i64 a, .int .i64 b, .slice Ab s.length cb] 60) none) (own_nn _)) hgrow; have ho2 := World.ownsRow.kept (World.ownsRow.kept O2.out (World.grownBy_alloc w2 (.cells #[.int .i64 a, .int .i64 b, .slice Ab s.length cb] 60) none) (own_nn _)) hgrow (own_apart (World.ownsRow.kept O2.out (World.grownBy_alloc w2 (.cells #[.int .i64 a, .int .i64 b, .slice Ab s.length cb] 60) none) (own_nn _)) (World.ownsRow.kept K1.out (World.grownBy_alloc w2 (.cells #[.int .i64 a, .int .i64 b, .slice Ab s.length cb] 60) none) (own_nn _)) (by decide)); obtain ⟨Aq, cz, rfl⟩ := own_slice2 hown'; have O3 := Aside0.mk hown'; have B3 := Aside0.mk b3; have OB := Aside0.mk ho2; have f3 : w3.frozen? ⟨h, 1, none⟩ = false := blk_frozen (QR.out.below b3).1 1; have c3 := cell_bel b3 c1w; clear hown' hgrow b3 ho2)))
            go_ret
            have hR := QR.out.below B3.out
            have hgr := grownBy_setC w3 ⟨h, 1, none⟩ (.slice Aq (P.length + 1) cz)
            have hrf : rf P ++ [.int .i64 a, .int .i64 b, .slice Ab s.length cb] = rf (P ++ [((a, b, s), .slice Ab s.length cb)]) := by rw [rf_append]; rfl
            have o3 := O3.out
            rw [hrf] at o3
            have hln : (P ++ [((a, b, s), Value.slice Ab s.length cb)]).length = P.length + 1 := by simp
            have hzw : z.heap.size ≤ W.heap.size := by have := QR.out.2.1; have := blk_lt QR.out.1; omega
            have hits : its (P ++ [((a, b, s), Value.slice Ab s.length cb)]) = its P ++ [(a, b, s)] := by unfold its; rw [List.map_append]; rfl
            have hU : Upd (fun j => j = h) w (w3.setCell ⟨h, 1, none⟩ (.slice Aq (P.length + 1) cz)) := Upd.setCell (S := fun j => j = h) (p := ⟨h, 1, none⟩) (upd_below QU.out B3.out) (Or.inl rfl) _
            have hIs : IsR z (w3.setCell ⟨h, 1, none⟩ (.slice Aq (P.length + 1) cz)) h mo (P ++ [((a, b, s), .slice Ab s.length cb)]) lo Aq cz := by
              refine ⟨?_, hR.2.1, ?_, fun p hp => ?_⟩
              · rw [hln]
                exact blk_put hR.1 1 _ rfl
              · rw [hln]
                exact Go.Joins.ownsRow_le (o3.kept hgr (Or.inr (own_off o3 hR.1 (by decide)))) hzw
              · rcases List.mem_append.1 hp with hp | hp
                · have hb := hR.2.2.2 p hp
                  exact World.ownsRow.kept hb hgr (Or.inr (own_off hb hR.1 (by decide)))
                · rw [List.mem_singleton.1 hp]
                  exact Go.Joins.ownsRow_le (OB.out.kept hgr (Or.inr (own_off OB.out hR.1 (by decide)))) hzw
            rw [HPUT.out]
            first | exact ⟨rfl, _, hits, ⟨Aq, cz, hIs⟩, hU⟩ | exact ⟨_, Aq, cz, rfl, hits, hIs, hU⟩
          | some ad =>
            have c1w : W.cell? ⟨h, 1, none⟩ = some (.slice (some ⟨gr, 0, none⟩) P.length c) := (blk_cell QR.out.1 1).trans rfl
            clear hkc hcells
            have hbz := HV.out.2.2.2.2
            obtain ⟨hi60, hz60, hs60, hb60⟩ := HZ60.out
            obtain ⟨hi5, hz5, hs5, hb5⟩ := HZ5.out
            have hone := rf_one QR.out.2.2.2
            have HONE := Aside0.mk hone
            have hpl := HPL.out
            have HPUT := Aside0.mk HPV.out
            clear hone
            go_wp2_with (first | (at_builtin; go_loud (refine wpList_append_own _ rfl (.tmp 156) (.tmp 160) 47 rfl W.heap.size 60 i60 _ 3 40 Try.underlying47 hi60 hz60 hs60 hb60 rfl (by decide) _ _ _ rfl (own_empty W _ 60 3 (Nat.le_refl _)) ⟨gr, 0, none⟩ P.length c (rf P) rfl (rf_len _) (rcells (World.ownsRow.kept QR.out.2.2.1 (World.grownBy_alloc _ _ none) (by simp [Value.ownBlock])) 0 _ (fun j u hj => by rw [Nat.zero_add]; exact hj)) (fun u hu => HONE.out u hu) (by unfold maxLen; omega) (by omega) (by simp) ?_; intro v' w1 hown' hgrow _; rw [Nat.zero_add, List.nil_append] at hown'; have b1 := below_app2 (n0 := 0) (below_alloc (Below.refl _ _) _) (own_empty W _ 60 3 (Nat.le_refl _)) hgrow; obtain ⟨Ap, cq, rfl⟩ := own_slice2 hown'; have O1 := Aside0.mk hown'; have B1 := Aside0.mk b1; have hw1 := b1.size; clear hown' hgrow b1)) | (at_builtin; go_loud (refine wpList_append_own _ rfl (.tmp 164) (.tmp 165) 27 rfl W.heap.size 5 i5 (.int .u8 0) 1 1 Try.underlying27 hi5 hz5 hs5 hb5 rfl (by decide) _ _ _ rfl (own_empty w1 _ 5 1 hw1) ad s.length cs (s.map (Value.int .u8)) rfl (by simp) (C_cells2 (C_below (HC.out _ (upd_below QU.out B1.out)) (below_alloc (Below.refl _ _) _))) (one_cells s) (by unfold maxLen; omega) (by omega) (by simp; omega) ?_; intro v' w2 hown' hgrow _; rw [Nat.zero_add, List.nil_append] at hown'; have b2 := below_app2 (n0 := 0) (below_alloc B1.out _) (own_empty w1 W.heap.size 5 1 hw1) hgrow; have hk1 := World.ownsRow.kept (World.ownsRow.kept O1.out (World.grownBy_alloc w1 (.cells #[] 5) none) (own_nn _)) hgrow (own_apart (World.ownsRow.kept O1.out (World.grownBy_alloc w1 (.cells #[] 5) none) (own_nn _)) (own_empty w1 W.heap.size 5 1 hw1) (by decide)); obtain ⟨Ab, cb, rfl⟩ := own_slice2 hown'; have O2 := Aside0.mk hown'; have B2 := Aside0.mk b2; have K1 := Aside0.mk hk1; have hw2 := b2.size; clear hown' hgrow b2 hk1)) | (at_builtin; go_loud (refine wpList_append_own _ rfl (.tmp 161) (.tmp 168) 47 rfl W.heap.size 60 i60 _ 3 40 Try.underlying47 hi60 hz60 hs60 hb60 rfl (by decide) _ _ _ rfl (World.ownsRow.kept K1.out (World.grownBy_alloc w2 (.cells #[.int .i64 a, .int .i64 b, .slice Ab s.length cb] 60) none) (own_nn _)) ⟨w2.heap.size, 0, none⟩ 1 1 [.int .i64 a, .int .i64 b, .slice Ab s.length cb] rfl rfl (cells_new w2 #[.int .i64 a, .int .i64 b, .slice Ab s.length cb] 60) (by simp [Value.oneCell']) (by unfold maxLen; omega) (by omega) (by simp; omega) ?_; intro v' w3 hown' hgrow _; have b3 := below_app2 (n0 := 0) (below_alloc B2.out _) (World.ownsRow.kept K1.out (World.grownBy_alloc w2 (.cells #[.int .i64 a, .int .i64 b, .slice Ab s.length cb] 60) none) (own_nn _)) hgrow; have ho2 := World.ownsRow.kept (World.ownsRow.kept O2.out (World.grownBy_alloc w2 (.cells #[.int .i64 a, .int .i64 b, .slice Ab s.length cb] 60) none) (own_nn _)) hgrow (own_apart (World.ownsRow.kept O2.out (World.grownBy_alloc w2 (.cells #[.int .i64 a, .int .i64 b, .slice Ab s.length cb] 60) none) (own_nn _)) (World.ownsRow.kept K1.out (World.grownBy_alloc w2 (.cells #[.int .i64 a, .int .i64 b, .slice Ab s.length cb] 60) none) (own_nn _)) (by decide)); obtain ⟨Aq, cz, rfl⟩ := own_slice2 hown'; have O3 := Aside0.mk hown'; have B3 := Aside0.mk b3; have OB := Aside0.mk ho2; have f3 : w3.frozen? ⟨h, 1, none⟩ = false := blk_frozen (QR.out.below b3).1 1; have c3 := cell_bel b3 c1w; clear hown' hgrow b3 ho2)))
            go_ret
            have hR := QR.out.below B3.out
            have hgr := grownBy_setC w3 ⟨h, 1, none⟩ (.slice Aq (P.length + 1) cz)
            have hrf : rf P ++ [.int .i64 a, .int .i64 b, .slice Ab s.length cb] = rf (P ++ [((a, b, s), .slice Ab s.length cb)]) := by rw [rf_append]; rfl
            have o3 := O3.out
            rw [hrf] at o3
            have hln : (P ++ [((a, b, s), Value.slice Ab s.length cb)]).length = P.length + 1 := by simp
            have hzw : z.heap.size ≤ W.heap.size := by have := QR.out.2.1; have := blk_lt QR.out.1; omega
            have hits : its (P ++ [((a, b, s), Value.slice Ab s.length cb)]) = its P ++ [(a, b, s)] := by unfold its; rw [List.map_append]; rfl
            have hU : Upd (fun j => j = h) w (w3.setCell ⟨h, 1, none⟩ (.slice Aq (P.length + 1) cz)) := Upd.setCell (S := fun j => j = h) (p := ⟨h, 1, none⟩) (upd_below QU.out B3.out) (Or.inl rfl) _
            have hIs : IsR z (w3.setCell ⟨h, 1, none⟩ (.slice Aq (P.length + 1) cz)) h mo (P ++ [((a, b, s), .slice Ab s.length cb)]) lo Aq cz := by
              refine ⟨?_, hR.2.1, ?_, fun p hp => ?_⟩
              · rw [hln]
                exact blk_put hR.1 1 _ rfl
              · rw [hln]
                exact Go.Joins.ownsRow_le (o3.kept hgr (Or.inr (own_off o3 hR.1 (by decide)))) hzw
              · rcases List.mem_append.1 hp with hp | hp
                · have hb := hR.2.2.2 p hp
                  exact World.ownsRow.kept hb hgr (Or.inr (own_off hb hR.1 (by decide)))
                · rw [List.mem_singleton.1 hp]
                  exact Go.Joins.ownsRow_le (OB.out.kept hgr (Or.inr (own_off OB.out hR.1 (by decide)))) hzw
            rw [HPUT.out]
            first | exact ⟨rfl, _, hits, ⟨Aq, cz, hIs⟩, hU⟩ | exact ⟨_, Aq, cz, rfl, hits, hIs, hU⟩
end Go.Proofs.Ytoeaoanaefipaaa.Bfj
