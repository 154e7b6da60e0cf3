/- The reference host: what comes next and what is released. -/
import Derived.Test.YtmofahlmcpeanaaProg
import Derived.Below
import Derived.Deep.Draws
import Derived.Deep.AppendLies
import Derived.Maps.AppendAt
import Derived.OwnWalk
import Derived.Laws.BytesArg
import Derived.Laws.MakeOwn
import Derived.Laws.OwnMore
import Derived.Deep.OwnRows
import Derived.Tactics
import Derived.Lib.ConvBytes
import Derived.Laws.Slices
import Derived.WalkKit
import Derived.KernelRfl
import Derived.RowKit3
import Derived.Deep.LoopGhost
import Derived.Deep.QuietTactic
import Derived.BigQuiet
import Derived.WideLaws
import Derived.Deep.DeepCutAuto
import Derived.Deep.CutBlock
import Derived.Deep.RegionHeld3
import Derived.Laws.Rows
import Derived.Lib.AppendStr
import Derived.ArgAppend
import Derived.Laws.IdiomCopy
import Derived.OrdersHeld
import Derived.Laws.BitsLemmas
import Derived.RowKit
import Derived.RegionTactic
import Derived.ChangeAlike
import Derived.Outline
import Derived.LoopTactic
import Derived.WalkSpells
import Derived.WalkLawsBesides
import Derived.Lib.Hide
import Derived.StillTailTactics
import Derived.Deep.RegionWith
import Derived.Deep.RegionLaw
import Derived.Deep.DeepFit
import Derived.Deep.DeepMust
import Derived.Test.YtmofahlmcpeanaaWWords
import Derived.Test.YtmofahlmcpeanaaWLast
import Derived.Test.YtmofahlmcpeanaaWTab
import Derived.Test.YtmofahlmcpeanaaWFour
import Derived.Test.YtmofahlmcpeanaaWQPut
import Derived.Test.YtmofahlmcpeanaaWApart
import Derived.Test.YtmofahlmcpeanaaWArr
import Derived.Test.YtmofahlmcpeanaaWZeros
import Derived.Test.YtmofahlmcpeanaaWFoot
import Derived.Test.YtmofahlmcpeanaaWKept
import Derived.Test.YtmofahlmcpeanaaWShare
import Derived.Test.YtmofahlmcpeanaaWN
import Derived.Test.YtmofahlmcpeanaaWFootNe
import Derived.Test.YtmofahlmcpeanaaWAt
import Derived.Test.YtmofahlmcpeanaaWEqStruct
import Derived.Test.YtmofahlmcpeanaaWRepsOne
import Derived.Test.YtmofahlmcpeanaaWInv
import Derived.Test.YtmofahlmcpeanaaWInvWords
import Derived.Test.YtmofahlmcpeanaaWGuard
import Derived.Test.YtmofahlmcpeanaaWNEv
import Derived.Test.YtmofahlmcpeanaaWMore
import Derived.Test.YtmofahlmcpeanaaHs7
namespace Go.Proofs.Ytmofahlmcpeanaa.Hs8
open Go.RowKit Go.Proofs.YtmofahlmcpeanaaW.PrintWords Go.Proofs.YtmofahlmcpeanaaW.PrintLast Go.Proofs.YtmofahlmcpeanaaW.PrintMore 
attribute [local go_sem] max2_int min2_int max_two min_two max_three min_three max_four min_four
set_option linter.unusedVariables false
set_option linter.unusedSimpArgs false
open Go.Joins Go.Proofs.Ytmofahlmcpeanaa.Hs1 Go.Proofs.Ytmofahlmcpeanaa.Hs2 Go.Proofs.Ytmofahlmcpeanaa.Hs3 Go.Proofs.Ytmofahlmcpeanaa.Hs4 Go.Proofs.Ytmofahlmcpeanaa.Hs5 Go.Proofs.Ytmofahlmcpeanaa.Hs6 Go.Proofs.Ytmofahlmcpeanaa.Hs7
attribute [local go_sem] cellS1 frozenS1 cellS2 frozenS2 cellS3 frozenS3 cellS4 frozenS4

theorem ref_next_none (h : Nat)  (AL : Option Addr) (cl : Nat) (Q : List Pt) (AP : Option Addr) (cp : Nat) (lo : Int) (z w : World) (k : IsRef z w h [] AL cl Q AP cp lo) : Calls Try.prog 15 #[.pointer (some ⟨h, 0, none⟩)] w fun en w' => en = .returned (.tuple #[.slice none 0 0, .bool false]) ∧ w' = w := by
  have c0 : w.cell? ⟨h, 0, none⟩ = some (.slice AL 0 cl) := (blk_cell k.1 0).trans rfl
  clear k
  go_enter Try.func15, Try.ntmps15
  go_wp2
  go_ret2
  exact ⟨rfl, rfl⟩
def NextPost (z w w' : World) (h : Nat) (p : Lt) (ql : List Lt) (Q : List Pt) (AP : Option Addr) (cp : Nat) (lo : Int) : Prop := OwnQ z w' p ∧ (∃ AL' cl', IsRef z w' h ql AL' cl' Q AP cp lo) ∧ Upd (fun j => j = h) w w'
set_option maxRecDepth 100000 in
theorem ref_next (h : Nat) (p : Lt) (ql : List Lt) (AL : Option Addr) (cl : Nat) (Q : List Pt) (AP : Option Addr) (cp : Nat) (lo : Int) (z w : World) (k : IsRef z w h (p :: ql) AL cl Q AP cp lo) : Calls Try.prog 15 #[.pointer (some ⟨h, 0, none⟩)] w fun en w' => en = .returned (.tuple #[p.2, .bool true]) ∧ NextPost z w w' h p ql Q AP cp lo := by
  have HR := Aside0.mk k
  have hrow := k.2.2.1
  rw [List.map_cons] at hrow
  obtain ⟨gl, off, e, hc⟩ := hrow.cell 0 (by simp)
  subst e
  replace hc : w.cell? ⟨gl, off, none⟩ = some p.2 := hc
  obtain ⟨n, hn⟩ : ∃ n, ql.length = n := ⟨_, rfl⟩
  have hl2 := hrow.len
  rw [List.length_cons, hn] at hrow hl2
  obtain ⟨A8, hcut, hr8, hb8⟩ := RowAt.tail (u := [p.2]) hrow rfl (by omega)
  have hsl : ∀ U, (Instr.slice 22 (.slice (some ⟨gl, off, none⟩) (n + 1) cl) (some (.int .i64 1)) none none).run Try.prog U = .ok (.slice A8 n (cl - 1)) U := by
    intro U
    rw [run_slice_l (P := Try.prog) (w := U) (t := 22) (a := some ⟨gl, off, none⟩) (len := n + 1) (cap := cl) (ht := Try.underlying22) (kl := .i64) (l := 1) (h0 := by omega) (h1 := by omega)]
    rw [show (Value.slice A8 n (cl - 1)) = .slice A8 (n + 1 - 1) (cl - 1) from rfl, ← hcut]
    rfl
  have c0 : w.cell? ⟨h, 0, none⟩ = some (.slice (some ⟨gl, off, none⟩) (n + 1) cl) := by rw [← hn]; exact (blk_cell k.1 0).trans rfl
  have f0 : w.frozen? ⟨h, 0, none⟩ = false := blk_frozen k.1 0
  obtain ⟨Av, cv, ev, hv⟩ := k.2.2.2.1 p (List.mem_cons_self ..)
  rw [ev] at hc ⊢
  have H8 := Aside0.mk hr8
  have HN := Aside0.mk hn
  have EV := Aside0.mk ev
  have hnm : n ≤ 9223372036854775806 := by have := hl2.1; have := hl2.2; unfold maxLen at this; omega
  clear k hrow hcut hr8 hb8 hl2 hn ev hv
  go_enter Try.func15, Try.ntmps15
  go_wp2
  go_ret2
  have h5 : ∀ j cs fr, j = h → w.heap[j]? ≠ some (.cells cs 5 fr) := by
    intro j cs fr e1 e2
    rw [e1, HR.out.1] at e2
    cases e2
  refine ⟨rfl, (HR.out.2.2.2.1 p (List.mem_cons_self ..)).upd (set_h _) h5, ⟨A8, cl - 1, ?_, HR.out.2.1, ?_, fun p' hp' => (HR.out.2.2.2.1 p' (List.mem_cons_of_mem _ hp')).upd (set_h _) h5, HR.out.2.2.2.2.upd (set_h _) (fun j hj e => HR.out.2.2.2.2.1.off HR.out.1 (by decide) (by rw [hj, e]))⟩, set_h _⟩
  · rw [HN.out]; exact blk_put HR.out.1 0 _ rfl
  · have h1 := H8.out
    rw [HN.out]
    exact RowAt.upd (n := n) h1 (set_h _) (fun j hj e => h1.off HR.out.1 (by decide) (by rw [hj, e]))
theorem ref_poll (h : Nat) (ql : List Lt) (AL : Option Addr) (cl : Nat) (Q : List Pt) (AP : Option Addr) (cp : Nat) (lo : Int) (z w : World) (k : IsRef z w h ql AL cl Q AP cp lo) : Calls Try.prog 17 #[.pointer (some ⟨h, 0, none⟩)] w fun en w' => en = .returned (.slice AP Q.length cp) ∧ IsRef z w' h ql AL cl [] none 0 lo ∧ Upd (fun j => j = h) w w' := by
  have HR := Aside0.mk k
  have c0 : w.cell? ⟨h, 1, none⟩ = some (.slice AP Q.length cp) := (blk_cell k.1 1).trans rfl
  have f0 : w.frozen? ⟨h, 1, none⟩ = false := blk_frozen k.1 1
  clear k
  go_enter Try.func17, Try.ntmps17
  go_wp2
  go_ret
  have h5 : ∀ j cs fr, j = h → w.heap[j]? ≠ some (.cells cs 5 fr) := by
    intro j cs fr e1 e2
    rw [e1, HR.out.1] at e2
    cases e2
  refine ⟨rfl, ⟨blk_put HR.out.1 1 _ rfl, HR.out.2.1, HR.out.2.2.1.upd (set_h _) (fun j hj e => HR.out.2.2.1.off HR.out.1 (by decide) (by rw [hj, e])), fun p hp => (HR.out.2.2.2.1 p hp).upd (set_h _) h5, RowAt.nil _ _ _ _, fun p hp => by cases hp⟩, set_h _⟩
set_option maxRecDepth 100000 in
theorem rref_long (h : Nat) (w : World) (fr rd : Int) (S : Option Addr) (n cs : Nat) (hn : 16 < n) (hn2 : n ≤ 9223372036854775807) : Calls Try.prog 18 #[.pointer (some ⟨h, 0, none⟩), .agg #[.int .i64 fr, .int .i64 rd, .slice S n cs]] w fun en w' => en = .returned (.int .i64 2) ∧ Below w.heap.size w w' := by
  go_enter Try.func18, Try.ntmps18
  go_wp2
  go_ret
  exact ⟨rfl, below_alloc (Below.refl _ _) _⟩
def RRPost (z w w' : World) (h : Nat) (ql : List Lt) (AL : Option Addr) (cl : Nat) (Q : List Pt) (lo : Int) (p : Int × Int × List Int) : Prop := ∃ (A' : Option Addr) (cap' : Nat) (v' : Value), IsRef z w' h ql AL cl (heldQ (Q ++ [(p, v')])) A' cap' (if 64 < Q.length + 1 then lo + 1 else lo) ∧ Upd (fun j => j = h) w w' ∧ ∃ j, A'.map (·.block) = some j ∧ w.heap.size ≤ j
set_option maxRecDepth 100000 in
set_option maxHeartbeats 4000000 in
theorem ref_release (h : Nat) (ql : List Lt) (AL : Option Addr) (cl : Nat) (Q : List Pt) (AP : Option Addr) (cp : Nat) (lo : Int) (z w : World) (k : IsRef z w h ql AL cl Q AP cp lo) (hQ : Q.length ≤ 64) (hlo : 0 ≤ lo ∧ lo ≤ 1000000) (fr rd : Int) (S : Option Addr) (cs : Nat) (b : List Int) (hb : b.length ≤ 16) (hC : Kd.C (Kd.int .u8) z S b.length b) :
    Calls Try.prog 18 #[.pointer (some ⟨h, 0, none⟩), .agg #[.int .i64 fr, .int .i64 rd, .slice S b.length cs]] w fun en w' => en = .returned (.int .i64 0) ∧ RRPost z w w' h ql AL cl Q lo (fr, rd, b) := by
  obtain ⟨i43, hi43, hz43, hs43, hb43⟩ := info_parts info43
  have HZ43 := Aside0.mk (And.intro hi43 (And.intro hz43 (And.intro hs43 hb43)))
  have HR := Aside0.mk k
  have HLO := Aside0.mk hlo
  have HQ := Aside0.mk hQ
  have HONE := Aside0.mk (pf_one (fun t ht => (k.2.2.2.2.2 t ht).one))
  have ARG0 : Aside0 (ArgB z ((fr, rd, b), .slice S b.length cs)) := ⟨⟨S, cs, rfl, hC⟩⟩
  clear k hlo hQ hi43 hz43 hs43 hb43 hC
  go_enter Try.func18, Try.ntmps18
  go_upto_region 3 with (fail)
  refine wp_gen (fun W => W.heap[w.heap.size]? = some (.cells #[.int .i64 fr, .int .i64 rd, .slice S b.length cs] 43 (0, 0)) ∧ IsRef z W h ql AL cl Q AP cp lo ∧ Below w.heap.size w W) ⟨blk_new _ _, HR.out.below (below_alloc (Below.refl _ _) _), below_alloc (Below.refl _ _) _⟩ ?_
  clear HR
  obtain ⟨bx, hbx⟩ : ∃ bx, w.heap.size = bx := ⟨_, rfl⟩
  obtain ⟨bl, hbl⟩ : ∃ bl, b.length = bl := ⟨_, rfl⟩
  obtain ⟨n, hn⟩ : ∃ n, Q.length = n := ⟨_, rfl⟩
  rw [hbx, hbl]
  rintro W ⟨q1, q2, q3⟩
  have ARG := ARG0
  rw [hbl] at ARG
  clear ARG0
  have XW := Aside0.mk q1
  have RW := Aside0.mk q2
  have BW : Aside0 (Below w.heap.size w W) := ⟨by rw [hbx]; exact q3⟩
  have hpr := q2.2.2.2.2.1
  rw [hn] at hpr
  have HPR := Aside0.mk hpr
  have HN := Aside0.mk hn
  have hn64 : n ≤ 64 := by rw [← hn]; exact HQ.out
  have c1 : W.cell? ⟨h, 1, none⟩ = some (.slice AP n cp) := by rw [← hn]; exact (blk_cell q2.1 1).trans rfl
  have hSB : ∀ U, Below W.heap.size W U → Below W.heap.size W U ∧ U.cell? ⟨h, 1, none⟩ = some (.slice AP n cp) ∧ U.frozen? ⟨h, 1, none⟩ = false ∧ U.cell? ⟨bx, 0, none⟩ = some (.int .i64 fr) ∧ U.cell? ⟨bx, 1, none⟩ = some (.int .i64 rd) ∧ U.cell? ⟨bx, 2, none⟩ = some (.slice S bl cs) := fun U hU => ⟨hU, cell_bel hU c1, blk_frozen (blk_below q2.1 hU) 1, (blk_cell (blk_below q1 hU) 0).trans rfl, (blk_cell (blk_below q1 hU) 1).trans rfl, (blk_cell (blk_below q1 hU) 2).trans rfl⟩
  clear q1 q2 q3 hbx hbl hn hpr c1
  refine region_N (fun U => Below W.heap.size W U ∧ U.cell? ⟨h, 1, none⟩ = some (.slice AP n cp) ∧ U.frozen? ⟨h, 1, none⟩ = false ∧ U.cell? ⟨bx, 0, none⟩ = some (.int .i64 fr) ∧ U.cell? ⟨bx, 1, none⟩ = some (.int .i64 rd) ∧ U.cell? ⟨bx, 2, none⟩ = some (.slice S bl cs)) 10 (by kernel_rfl) (hSB _ (below_drew1 (Below.refl _ _))) (fun hS => ?_)
  refine takeN (i := 0) (v := ?_) rfl (by kernel_rfl) (by kernel_rfl) (by kernel_rfl) (by kernel_rfl) (fun _ _ _ h => h) (Or.inl ⟨by rfl, ?_⟩) hS ?_
  rotate_left
  · (intro U hSU; (try dsimp only at hSU); go_simp; all_goals (first | done | (with_reducible rfl)))
  (try simp only [Act.put, List.setIfInBounds_toArray, List.set_cons_zero, List.set_cons_succ])
  refine takeN (i := 2) (v := ?_) rfl (by kernel_rfl) (by kernel_rfl) (by kernel_rfl) (by kernel_rfl) (fun _ _ _ h => h) (Or.inl ⟨by rfl, ?_⟩) hS ?_
  rotate_left
  · (intro U hSU; (try dsimp only at hSU); go_simp; all_goals (first | done | (with_reducible rfl)))
  (try simp only [Act.put, List.setIfInBounds_toArray, List.set_cons_zero, List.set_cons_succ])
  refine takeN (i := 3) (v := ?_) rfl (by kernel_rfl) (by kernel_rfl) (by kernel_rfl) (by kernel_rfl) (fun _ _ _ h => h) (Or.inl ⟨by rfl, ?_⟩) hS ?_
  rotate_left
  · (intro U hSU; (try dsimp only at hSU); go_simp; all_goals (first | done | (with_reducible rfl)))
  (try simp only [Act.put, List.setIfInBounds_toArray, List.set_cons_zero, List.set_cons_succ])
  refine takeN (i := 4) (v := ?_) rfl (by kernel_rfl) (by kernel_rfl) (by kernel_rfl) (by kernel_rfl) (fun _ _ _ h => h) (Or.inl ⟨by rfl, ?_⟩) hS ?_
  rotate_left
  · (intro U hSU; (try dsimp only at hSU); go_simp; all_goals (first | done | (with_reducible rfl)))
  (try simp only [Act.put, List.setIfInBounds_toArray, List.set_cons_zero, List.set_cons_succ])
  refine takeN (i := 5) (v := ?_) rfl (by kernel_rfl) (by kernel_rfl) (by kernel_rfl) (by kernel_rfl) (fun _ _ _ h => h) (Or.inl ⟨by rfl, ?_⟩) hS ?_
  rotate_left
  · (intro U hSU; (try dsimp only at hSU); go_simp; all_goals (first | done | (with_reducible rfl)))
  (try simp only [Act.put, List.setIfInBounds_toArray, List.set_cons_zero, List.set_cons_succ])
  refine takeN (i := 7) (v := ?_) rfl (by kernel_rfl) (by kernel_rfl) (by kernel_rfl) (by kernel_rfl) (fun _ _ _ h => h) (Or.inl ⟨by rfl, ?_⟩) hS ?_
  rotate_left
  · (intro U hSU; (try dsimp only at hSU); go_simp; all_goals (first | done | (with_reducible rfl)))
  (try simp only [Act.put, List.setIfInBounds_toArray, List.set_cons_zero, List.set_cons_succ])
  refine twoN (i := 1) (j := 8) (by kernel_rfl) rfl rfl (fun K hK => ?_) (fun K hK => ?_)
  · go_simp
    have b1 : Below W.heap.size W (World.drew (World.alloc W (.cells #[] 43))) := below_alloc (below_drew1 (Below.refl W.heap.size W)) _
    refine hK _ _ (fun _ => hSB _ b1) ?_
    have E1 : Aside0 (RowAt (World.drew (World.alloc W (.cells #[] 43))) W.heap.size 43 3 (some ⟨W.heap.size, 0, none⟩) 0 0 []) := ⟨row_empty W.drew W.heap.size 43 3 ((below_drew1 (Below.refl W.heap.size W))).size⟩
    have B1 := Aside0.mk b1
    clear hK K b1

    obtain ⟨V1, hV1⟩ : ∃ V1, (World.drew (World.alloc W (.cells #[] 43))) = V1 := ⟨_, rfl⟩

    rw [hV1] at E1 B1 ⊢
    clear hV1
    (try simp only [Act.put, List.setIfInBounds_toArray, List.set_cons_zero, List.set_cons_succ])
    refine twoN (i := 6) (j := 8) (by kernel_rfl) rfl rfl (fun K hK => ?_) (fun K hK => ?_)
    · have hwz : W.heap.size ≤ V1.heap.size := (B1.out).size
      obtain ⟨hi43, hz43, hs43, hb43⟩ := HZ43.out
      have hsr : Src Try.prog 3 38 (.slice AP n cp) n (pf Q) V1 := src_row Try.underlying38 (HPR.out.upd (S := fun _ => False) (Upd.of_below B1.out) (fun _ _ h => h)) HONE.out
      refine step_append_at rfl (.tmp 10) (.tmp 14) 38 38 rfl W.heap.size 43 i43 _ 3 40 Try.underlying38 hi43 hz43 hs43 hb43 rfl (some ⟨W.heap.size, 0, none⟩) 0 0 [] rfl E1.out (.slice AP n cp) n (pf Q) rfl hsr (by unfold maxLen; omega) (by omega) hwz ?_
      intro A1 ca1 V6 hown hgrow hat
      rw [Nat.zero_add, List.nil_append] at hown
      have b1 : Below W.heap.size W V6 := below_app3 B1.out E1.out hgrow
      refine hK _ _ (fun _ => hSB _ b1) ?_
      rw [Nat.zero_add]
      have R6 := Aside0.mk hown
      have B6 := Aside0.mk b1
      clear hK K b1 hown hgrow hat hsr hwz hi43 hz43 hs43 hb43 E1
      (try simp only [Act.put, List.setIfInBounds_toArray, List.set_cons_zero, List.set_cons_succ])
      refine oneN (i := 8) (by kernel_rfl) rfl (fun K hK => ?_)
      go_simp
      have b1 : Below W.heap.size W (World.alloc V6 (.cells #[.int .i64 fr, .int .i64 rd, .slice S bl cs] 43)) := below_alloc B6.out _
      refine hK _ _ (fun _ => hSB _ b1) ?_
      have I8 : Aside0 ((World.alloc V6 (.cells #[.int .i64 fr, .int .i64 rd, .slice S bl cs] 43)).heap[V6.heap.size]? = some (.cells #[.int .i64 fr, .int .i64 rd, .slice S bl cs] 43 (0, 0))) := ⟨blk_new V6 (.cells #[.int .i64 fr, .int .i64 rd, .slice S bl cs] 43)⟩
      have hib : W.heap.size ≤ V6.heap.size := (B6.out).size
      have HIB := Aside0.mk hib
      have B8 := Aside0.mk b1
      have R2 := Aside0.mk (R6.out.upd (S := fun _ => False) (Upd.of_below (below_alloc (Below.refl V6.heap.size V6) (.cells #[.int .i64 fr, .int .i64 rd, .slice S bl cs] 43))) (fun _ _ h => h))
      have HEI : Aside0 (∀ j, A1.map (·.block) = some j → V6.heap.size ≠ j) := ⟨fun j hj e => by have := (R6.out.lt j hj).2; omega⟩
      clear R6
      have R6 := R2
      clear R2
      clear hK K b1 hib
      obtain ⟨ib, hib⟩ : ∃ ib, V6.heap.size = ib := ⟨_, rfl⟩
      obtain ⟨V8, hV8⟩ : ∃ V8, (World.alloc V6 (.cells #[.int .i64 fr, .int .i64 rd, .slice S bl cs] 43)) = V8 := ⟨_, rfl⟩
      rw [hib] at I8 HIB HEI ⊢
      rw [hV8] at I8 B8 R6 ⊢
      clear hib hV8
      (try simp only [Act.put, List.setIfInBounds_toArray, List.set_cons_zero, List.set_cons_succ])
      refine oneN (i := 9) (by kernel_rfl) rfl (fun K hK => ?_)
      have hwz : W.heap.size ≤ V8.heap.size := (B8.out).size
      obtain ⟨hi43, hz43, hs43, hb43⟩ := HZ43.out
      have hcc : ∀ j u, ([.int .i64 fr, .int .i64 rd, .slice S bl cs] : List Value)[j]? = some u → V8.cell? ((⟨ib, 0, none⟩ : Addr).add j) = some u := fun j u hj => by
        rw [Addr.add_lit, blk_cell I8.out, Nat.zero_add]
        simpa using hj
      refine step_append_at rfl (.tmp 15) (.tmp 17) 38 38 rfl W.heap.size 43 i43 _ 3 40 Try.underlying38 hi43 hz43 hs43 hb43 rfl A1 n ca1 (pf Q) rfl R6.out (.slice (some ⟨ib, 0, none⟩) 1 1) 1 [.int .i64 fr, .int .i64 rd, .slice S bl cs] rfl (Src.ofSlice _ Try.underlying38 ⟨ib, 0, none⟩ 1 1 [.int .i64 fr, .int .i64 rd, .slice S bl cs] rfl hcc (by simp [Value.oneCell'])) (by unfold maxLen; omega) (by omega) hwz ?_
      intro A9 ca9 w9 hown hgrow hat
      have b9 : Below W.heap.size W w9 := below_app3 B8.out R6.out hgrow
      have hS9 := hSB _ b9
      refine hK _ _ (fun _ => hS9) ?_
      have O9 := Aside0.mk hown
      have B9 := Aside0.mk b9
      clear hK K hS b9 hown hgrow hat hcc hwz hi43 hz43 hs43 hb43 R6 I8 HEI HIB
      (try clear B1)
      (try clear B6)
      (try clear B8)
      obtain ⟨t0, t1, t2, t3, t4, t5⟩ := hS9
      clear t0 hSB
      (try simp only [Act.put, List.setIfInBounds_toArray, List.set_cons_zero, List.set_cons_succ])
      refine tailN2 10 (by kernel_rfl) (Nat.le_refl _) (by decide) (by kernel_rfl) ?_
      simp only [List.drop_succ_cons, List.drop_zero]
      go_upto_region 4 with (fail)
      obtain ⟨t, ht⟩ : ∃ t : Pt, ((fr, rd, b), Value.slice S bl cs) = t := ⟨_, rfl⟩
      have hpf : pf Q ++ [.int .i64 fr, .int .i64 rd, .slice S bl cs] = pf (Q ++ [t]) := by rw [pf_append, ← ht]; rfl
      have ho9 := O9.out
      rw [hpf] at ho9
      have hAT : ∃ j, A9.map (·.block) = some j ∧ w.heap.size ≤ j := by
        rcases ho9.2 with ⟨_, e, _⟩ | ⟨g9, off, cur, e, hb9, _⟩
        · omega
        · exact ⟨g9, by rw [e]; rfl, by have := BW.out.size; omega⟩
      have HAT := Aside0.mk hAT
      have hR9 := RW.out.below B9.out
      have ho9b := ho9.mono (b2 := z.heap.size) (by have h1 := RW.out.2.1; have h2 := blk_lt RW.out.1; omega)
      have hln : (Q ++ [t]).length = n + 1 := by rw [List.length_append, HN.out]; rfl
      have hAB : ∀ p ∈ Q ++ [t], ArgB z p := by
        intro p hp
        rcases List.mem_append.1 hp with hp | hp
        · exact RW.out.2.2.2.2.2 p hp
        · rw [List.mem_singleton.1 hp, ← ht]; exact ARG.out
      refine wp_gen (fun V => V.heap[h]? = some (.cells #[.slice AL ql.length cl, .slice A9 (n + 1) ca9, .int .i64 lo] 49 (0, 0)) ∧ z.heap.size ≤ h ∧ RowAt V z.heap.size 29 1 AL ql.length cl (ql.map (·.2)) ∧ (∀ p ∈ ql, OwnQ z V p) ∧ RowAt V z.heap.size 43 3 A9 (n + 1) ca9 (pf (Q ++ [t])) ∧ Upd (fun j => j = h) w V) ⟨blk_put hR9.1 1 _ rfl, hR9.2.1, hR9.2.2.1.upd (set_h _) (fun j hj e => hR9.2.2.1.off hR9.1 (by decide) (by rw [hj, e])), fun p hp => (hR9.2.2.2.1 p hp).upd (set_h _) (fun j cs fr e1 e2 => by rw [e1, hR9.1] at e2; cases e2), ho9b.upd (set_h _) (fun j hj e => ho9b.off hR9.1 (by decide) (by rw [hj, e])), (Upd.of_below (below_step BW.out B9.out)).trans (set_h _)⟩ ?_
      have HABS := Aside0.mk hAB
      have HLN := Aside0.mk hln
      clear t1 t2 t3 t4 t5 O9 B9 hpf ho9 hAT hR9 ho9b hln hAB XW RW BW HZ43 HONE HPR ARG
      rintro V ⟨q1, q2, q3, q4, q5, q6⟩
      have e18 : V.cell? ⟨h, 1, none⟩ = some (.slice A9 (n + 1) ca9) := (blk_cell q1 1).trans rfl
      have f18 : V.frozen? ⟨h, 1, none⟩ = false := blk_frozen q1 1
      have e19 : V.cell? ⟨h, 2, none⟩ = some (.int .i64 lo) := (blk_cell q1 2).trans rfl
      have V1 := Aside0.mk q1
      have V2 := Aside0.mk q2
      have V3 := Aside0.mk q3
      have V4 := Aside0.mk q4
      have V5 := Aside0.mk q5
      have V6 := Aside0.mk q6
      clear q1 q2 q3 q4 q5 q6
      by_cases hh : 64 < n + 1
      · obtain rfl : n = 64 := by omega
        have hln := V5.out.len
        obtain ⟨A8, hcut, hr8, hb8⟩ : ∃ A8, sliced A9 1 65 ca9 3 = .slice A8 64 (ca9 - 1) ∧ RowAt V z.heap.size 43 3 A8 64 (ca9 - 1) (pf ((Q ++ [t]).drop 1)) ∧ A8.map (·.block) = A9.map (·.block) := by
          cases hqq : Q ++ [t] with
          | nil => simp at hqq
          | cons t0 Q0 =>
            have h1 := V5.out
            rw [hqq, pf_cons] at h1
            exact h1.tail rfl (by omega)
        have hsl : ∀ U, (Instr.slice 38 (.slice A9 65 ca9) (some (.int .i64 1)) none none).run Try.prog U = .ok (.slice A8 64 (ca9 - 1)) U := by
          intro U
          rw [run_slice_l (P := Try.prog) (w := U) (t := 38) (a := A9) (len := 65) (cap := ca9) (ht := Try.underlying38) (kl := .i64) (l := 1) (h0 := by omega) (h1 := by omega)]
          rw [← hcut]
          rfl
        have H8 := Aside0.mk hr8
        have HB8 := Aside0.mk hb8
        clear hcut hr8 hb8
        have hlo := HLO.out
        go_upto_region 6 with (fail)
        refine wp_gen (fun V2 => V2.heap[h]? = some (.cells #[.slice AL ql.length cl, .slice A8 64 (ca9 - 1), .int .i64 lo] 49 (0, 0)) ∧ RowAt V2 z.heap.size 29 1 AL ql.length cl (ql.map (·.2)) ∧ (∀ p ∈ ql, OwnQ z V2 p) ∧ RowAt V2 z.heap.size 43 3 A8 64 (ca9 - 1) (pf ((Q ++ [t]).drop 1)) ∧ Upd (fun j => j = h) w V2) ⟨blk_put V1.out 1 _ rfl, V3.out.upd (set_h _) (fun j hj e => V3.out.off V1.out (by decide) (by rw [hj, e])), fun p hp => (V4.out p hp).upd (set_h _) (fun j cs fr e1 e2 => by rw [e1, V1.out] at e2; cases e2), H8.out.upd (set_h _) (fun j hj e => H8.out.off V1.out (by decide) (by rw [hj, e])), V6.out.trans (set_h _)⟩ ?_
        clear V1 V3 V4 V5 V6 H8 e18 e19 f18 hsl
        rintro V9 ⟨q1, q3, q4, q5, q6⟩
        have e19 : V9.cell? ⟨h, 2, none⟩ = some (.int .i64 lo) := (blk_cell q1 2).trans rfl
        have f19 : V9.frozen? ⟨h, 2, none⟩ = false := blk_frozen q1 2
        have V1 := Aside0.mk q1
        have V3 := Aside0.mk q3
        have V4 := Aside0.mk q4
        have V5 := Aside0.mk q5
        have V6 := Aside0.mk q6
        clear q1 q3 q4 q5 q6
        go_wp2
        go_ret
        have hh2 : heldQ (Q ++ [t]) = (Q ++ [t]).drop 1 := by unfold heldQ; rw [if_pos (by rw [HLN.out]; decide)]
        have hl2 : ((Q ++ [t]).drop 1).length = 64 := by rw [List.length_drop, HLN.out]
        refine ⟨rfl, A8, ca9 - 1, .slice S bl cs, ⟨?_, V2.out, ?_, ?_, ?_, ?_⟩, ?_, ?_⟩
        · rw [ht, hh2, hl2, HN.out, if_pos (by decide)]
          exact blk_put V1.out 2 _ rfl
        · exact V3.out.upd (set_h _) (fun j hj e => V3.out.off V1.out (by decide) (by rw [hj, e]))
        · exact fun p hp => (V4.out p hp).upd (set_h _) (fun j cs fr e1 e2 => by rw [e1, V1.out] at e2; cases e2)
        · rw [ht, hh2, hl2]
          exact V5.out.upd (set_h _) (fun j hj e => V5.out.off V1.out (by decide) (by rw [hj, e]))
        · rw [ht, hh2]
          exact fun p hp => HABS.out p (List.mem_of_mem_drop hp)
        · exact V6.out.trans (set_h _)
        · rw [HB8.out]; exact HAT.out
      · have hh2 : ¬ ((64 : Int) < (n : Int) + 1) := by omega
        go_wp2
        go_ret
        have hh3 : heldQ (Q ++ [t]) = Q ++ [t] := by unfold heldQ; rw [if_neg (by rw [HLN.out]; exact hh)]
        refine ⟨rfl, A9, ca9, .slice S bl cs, ⟨?_, V2.out, V3.out, V4.out, ?_, ?_⟩, V6.out, HAT.out⟩
        · rw [ht, hh3, HLN.out, HN.out, if_neg hh]
          exact V1.out
        · rw [ht, hh3, HLN.out]; exact V5.out
        · rw [ht, hh3]; exact HABS.out
    · go_simp
      have b1 : Below W.heap.size W (World.alloc V1 (.cells #[.int .i64 fr, .int .i64 rd, .slice S bl cs] 43)) := below_alloc B1.out _
      refine hK _ _ (fun _ => hSB _ b1) ?_
      have I8 : Aside0 ((World.alloc V1 (.cells #[.int .i64 fr, .int .i64 rd, .slice S bl cs] 43)).heap[V1.heap.size]? = some (.cells #[.int .i64 fr, .int .i64 rd, .slice S bl cs] 43 (0, 0))) := ⟨blk_new V1 (.cells #[.int .i64 fr, .int .i64 rd, .slice S bl cs] 43)⟩
      have hib : W.heap.size ≤ V1.heap.size := (B1.out).size
      have HIB := Aside0.mk hib
      have B8 := Aside0.mk b1
      have HEI : Aside0 (V1.heap.size ≠ W.heap.size) := ⟨fun e => by have := (E1.out.lt W.heap.size rfl).2; omega⟩
      have E2 := Aside0.mk (E1.out.upd (S := fun _ => False) (Upd.of_below (below_alloc (Below.refl V1.heap.size V1) (.cells #[.int .i64 fr, .int .i64 rd, .slice S bl cs] 43))) (fun _ _ h => h))
      clear E1
      have E1 := E2
      clear E2
      clear hK K b1 hib
      obtain ⟨ib, hib⟩ : ∃ ib, V1.heap.size = ib := ⟨_, rfl⟩
      obtain ⟨V8, hV8⟩ : ∃ V8, (World.alloc V1 (.cells #[.int .i64 fr, .int .i64 rd, .slice S bl cs] 43)) = V8 := ⟨_, rfl⟩
      rw [hib] at I8 HIB HEI ⊢
      rw [hV8] at I8 B8 E1 ⊢
      clear hib hV8
      (try simp only [Act.put, List.setIfInBounds_toArray, List.set_cons_zero, List.set_cons_succ])
      refine oneN (i := 6) (by kernel_rfl) rfl (fun K hK => ?_)
      have hwz : W.heap.size ≤ V8.heap.size := (B8.out).size
      obtain ⟨hi43, hz43, hs43, hb43⟩ := HZ43.out
      have hsr : Src Try.prog 3 38 (.slice AP n cp) n (pf Q) V8 := src_row Try.underlying38 (HPR.out.upd (S := fun _ => False) (Upd.of_below B8.out) (fun _ _ h => h)) HONE.out
      refine step_append_at rfl (.tmp 10) (.tmp 14) 38 38 rfl W.heap.size 43 i43 _ 3 40 Try.underlying38 hi43 hz43 hs43 hb43 rfl (some ⟨W.heap.size, 0, none⟩) 0 0 [] rfl E1.out (.slice AP n cp) n (pf Q) rfl hsr (by unfold maxLen; omega) (by omega) hwz ?_
      intro A1 ca1 V6 hown hgrow hat
      rw [Nat.zero_add, List.nil_append] at hown
      have b1 : Below W.heap.size W V6 := below_app3 B8.out E1.out hgrow
      refine hK _ _ (fun _ => hSB _ b1) ?_
      rw [Nat.zero_add]
      have R6 := Aside0.mk hown
      have B6 := Aside0.mk b1
      have I2 := Aside0.mk ((hgrow.block ib (blk_lt I8.out) (fun e => HEI.out (by cases e; rfl))).trans I8.out)
      have HE2 : Aside0 (∀ j, A1.map (·.block) = some j → ib ≠ j) := ⟨fun j hj e => by
        rcases hat with h | h
        · rw [hj] at h; cases h; exact HEI.out e
        · rw [hj] at h; cases h; have := blk_lt I8.out; omega⟩
      clear I8 HEI
      have I8 := I2
      have HEI := HE2
      clear I2 HE2
      clear hK K b1 hown hgrow hat hsr hwz hi43 hz43 hs43 hb43 E1
      (try simp only [Act.put, List.setIfInBounds_toArray, List.set_cons_zero, List.set_cons_succ])
      refine oneN (i := 9) (by kernel_rfl) rfl (fun K hK => ?_)
      have hwz : W.heap.size ≤ V6.heap.size := (B6.out).size
      obtain ⟨hi43, hz43, hs43, hb43⟩ := HZ43.out
      have hcc : ∀ j u, ([.int .i64 fr, .int .i64 rd, .slice S bl cs] : List Value)[j]? = some u → V6.cell? ((⟨ib, 0, none⟩ : Addr).add j) = some u := fun j u hj => by
        rw [Addr.add_lit, blk_cell I8.out, Nat.zero_add]
        simpa using hj
      refine step_append_at rfl (.tmp 15) (.tmp 17) 38 38 rfl W.heap.size 43 i43 _ 3 40 Try.underlying38 hi43 hz43 hs43 hb43 rfl A1 n ca1 (pf Q) rfl R6.out (.slice (some ⟨ib, 0, none⟩) 1 1) 1 [.int .i64 fr, .int .i64 rd, .slice S bl cs] rfl (Src.ofSlice _ Try.underlying38 ⟨ib, 0, none⟩ 1 1 [.int .i64 fr, .int .i64 rd, .slice S bl cs] rfl hcc (by simp [Value.oneCell'])) (by unfold maxLen; omega) (by omega) hwz ?_
      intro A9 ca9 w9 hown hgrow hat
      have b9 : Below W.heap.size W w9 := below_app3 B6.out R6.out hgrow
      have hS9 := hSB _ b9
      refine hK _ _ (fun _ => hS9) ?_
      have O9 := Aside0.mk hown
      have B9 := Aside0.mk b9
      clear hK K hS b9 hown hgrow hat hcc hwz hi43 hz43 hs43 hb43 R6 I8 HEI HIB
      (try clear B1)
      (try clear B6)
      (try clear B8)
      obtain ⟨t0, t1, t2, t3, t4, t5⟩ := hS9
      clear t0 hSB
      (try simp only [Act.put, List.setIfInBounds_toArray, List.set_cons_zero, List.set_cons_succ])
      refine tailN2 10 (by kernel_rfl) (Nat.le_refl _) (by decide) (by kernel_rfl) ?_
      simp only [List.drop_succ_cons, List.drop_zero]
      go_upto_region 4 with (fail)
      obtain ⟨t, ht⟩ : ∃ t : Pt, ((fr, rd, b), Value.slice S bl cs) = t := ⟨_, rfl⟩
      have hpf : pf Q ++ [.int .i64 fr, .int .i64 rd, .slice S bl cs] = pf (Q ++ [t]) := by rw [pf_append, ← ht]; rfl
      have ho9 := O9.out
      rw [hpf] at ho9
      have hAT : ∃ j, A9.map (·.block) = some j ∧ w.heap.size ≤ j := by
        rcases ho9.2 with ⟨_, e, _⟩ | ⟨g9, off, cur, e, hb9, _⟩
        · omega
        · exact ⟨g9, by rw [e]; rfl, by have := BW.out.size; omega⟩
      have HAT := Aside0.mk hAT
      have hR9 := RW.out.below B9.out
      have ho9b := ho9.mono (b2 := z.heap.size) (by have h1 := RW.out.2.1; have h2 := blk_lt RW.out.1; omega)
      have hln : (Q ++ [t]).length = n + 1 := by rw [List.length_append, HN.out]; rfl
      have hAB : ∀ p ∈ Q ++ [t], ArgB z p := by
        intro p hp
        rcases List.mem_append.1 hp with hp | hp
        · exact RW.out.2.2.2.2.2 p hp
        · rw [List.mem_singleton.1 hp, ← ht]; exact ARG.out
      refine wp_gen (fun V => V.heap[h]? = some (.cells #[.slice AL ql.length cl, .slice A9 (n + 1) ca9, .int .i64 lo] 49 (0, 0)) ∧ z.heap.size ≤ h ∧ RowAt V z.heap.size 29 1 AL ql.length cl (ql.map (·.2)) ∧ (∀ p ∈ ql, OwnQ z V p) ∧ RowAt V z.heap.size 43 3 A9 (n + 1) ca9 (pf (Q ++ [t])) ∧ Upd (fun j => j = h) w V) ⟨blk_put hR9.1 1 _ rfl, hR9.2.1, hR9.2.2.1.upd (set_h _) (fun j hj e => hR9.2.2.1.off hR9.1 (by decide) (by rw [hj, e])), fun p hp => (hR9.2.2.2.1 p hp).upd (set_h _) (fun j cs fr e1 e2 => by rw [e1, hR9.1] at e2; cases e2), ho9b.upd (set_h _) (fun j hj e => ho9b.off hR9.1 (by decide) (by rw [hj, e])), (Upd.of_below (below_step BW.out B9.out)).trans (set_h _)⟩ ?_
      have HABS := Aside0.mk hAB
      have HLN := Aside0.mk hln
      clear t1 t2 t3 t4 t5 O9 B9 hpf ho9 hAT hR9 ho9b hln hAB XW RW BW HZ43 HONE HPR ARG
      rintro V ⟨q1, q2, q3, q4, q5, q6⟩
      have e18 : V.cell? ⟨h, 1, none⟩ = some (.slice A9 (n + 1) ca9) := (blk_cell q1 1).trans rfl
      have f18 : V.frozen? ⟨h, 1, none⟩ = false := blk_frozen q1 1
      have e19 : V.cell? ⟨h, 2, none⟩ = some (.int .i64 lo) := (blk_cell q1 2).trans rfl
      have V1 := Aside0.mk q1
      have V2 := Aside0.mk q2
      have V3 := Aside0.mk q3
      have V4 := Aside0.mk q4
      have V5 := Aside0.mk q5
      have V6 := Aside0.mk q6
      clear q1 q2 q3 q4 q5 q6
      by_cases hh : 64 < n + 1
      · obtain rfl : n = 64 := by omega
        have hln := V5.out.len
        obtain ⟨A8, hcut, hr8, hb8⟩ : ∃ A8, sliced A9 1 65 ca9 3 = .slice A8 64 (ca9 - 1) ∧ RowAt V z.heap.size 43 3 A8 64 (ca9 - 1) (pf ((Q ++ [t]).drop 1)) ∧ A8.map (·.block) = A9.map (·.block) := by
          cases hqq : Q ++ [t] with
          | nil => simp at hqq
          | cons t0 Q0 =>
            have h1 := V5.out
            rw [hqq, pf_cons] at h1
            exact h1.tail rfl (by omega)
        have hsl : ∀ U, (Instr.slice 38 (.slice A9 65 ca9) (some (.int .i64 1)) none none).run Try.prog U = .ok (.slice A8 64 (ca9 - 1)) U := by
          intro U
          rw [run_slice_l (P := Try.prog) (w := U) (t := 38) (a := A9) (len := 65) (cap := ca9) (ht := Try.underlying38) (kl := .i64) (l := 1) (h0 := by omega) (h1 := by omega)]
          rw [← hcut]
          rfl
        have H8 := Aside0.mk hr8
        have HB8 := Aside0.mk hb8
        clear hcut hr8 hb8
        have hlo := HLO.out
        go_upto_region 6 with (fail)
        refine wp_gen (fun V2 => V2.heap[h]? = some (.cells #[.slice AL ql.length cl, .slice A8 64 (ca9 - 1), .int .i64 lo] 49 (0, 0)) ∧ RowAt V2 z.heap.size 29 1 AL ql.length cl (ql.map (·.2)) ∧ (∀ p ∈ ql, OwnQ z V2 p) ∧ RowAt V2 z.heap.size 43 3 A8 64 (ca9 - 1) (pf ((Q ++ [t]).drop 1)) ∧ Upd (fun j => j = h) w V2) ⟨blk_put V1.out 1 _ rfl, V3.out.upd (set_h _) (fun j hj e => V3.out.off V1.out (by decide) (by rw [hj, e])), fun p hp => (V4.out p hp).upd (set_h _) (fun j cs fr e1 e2 => by rw [e1, V1.out] at e2; cases e2), H8.out.upd (set_h _) (fun j hj e => H8.out.off V1.out (by decide) (by rw [hj, e])), V6.out.trans (set_h _)⟩ ?_
        clear V1 V3 V4 V5 V6 H8 e18 e19 f18 hsl
        rintro V9 ⟨q1, q3, q4, q5, q6⟩
        have e19 : V9.cell? ⟨h, 2, none⟩ = some (.int .i64 lo) := (blk_cell q1 2).trans rfl
        have f19 : V9.frozen? ⟨h, 2, none⟩ = false := blk_frozen q1 2
        have V1 := Aside0.mk q1
        have V3 := Aside0.mk q3
        have V4 := Aside0.mk q4
        have V5 := Aside0.mk q5
        have V6 := Aside0.mk q6
        clear q1 q3 q4 q5 q6
        go_wp2
        go_ret
        have hh2 : heldQ (Q ++ [t]) = (Q ++ [t]).drop 1 := by unfold heldQ; rw [if_pos (by rw [HLN.out]; decide)]
        have hl2 : ((Q ++ [t]).drop 1).length = 64 := by rw [List.length_drop, HLN.out]
        refine ⟨rfl, A8, ca9 - 1, .slice S bl cs, ⟨?_, V2.out, ?_, ?_, ?_, ?_⟩, ?_, ?_⟩
        · rw [ht, hh2, hl2, HN.out, if_pos (by decide)]
          exact blk_put V1.out 2 _ rfl
        · exact V3.out.upd (set_h _) (fun j hj e => V3.out.off V1.out (by decide) (by rw [hj, e]))
        · exact fun p hp => (V4.out p hp).upd (set_h _) (fun j cs fr e1 e2 => by rw [e1, V1.out] at e2; cases e2)
        · rw [ht, hh2, hl2]
          exact V5.out.upd (set_h _) (fun j hj e => V5.out.off V1.out (by decide) (by rw [hj, e]))
        · rw [ht, hh2]
          exact fun p hp => HABS.out p (List.mem_of_mem_drop hp)
        · exact V6.out.trans (set_h _)
        · rw [HB8.out]; exact HAT.out
      · have hh2 : ¬ ((64 : Int) < (n : Int) + 1) := by omega
        go_wp2
        go_ret
        have hh3 : heldQ (Q ++ [t]) = Q ++ [t] := by unfold heldQ; rw [if_neg (by rw [HLN.out]; exact hh)]
        refine ⟨rfl, A9, ca9, .slice S bl cs, ⟨?_, V2.out, V3.out, V4.out, ?_, ?_⟩, V6.out, HAT.out⟩
        · rw [ht, hh3, HLN.out, HN.out, if_neg hh]
          exact V1.out
        · rw [ht, hh3, HLN.out]; exact V5.out
        · rw [ht, hh3]; exact HABS.out
  · go_simp
    have b1 : Below W.heap.size W (World.drew (World.alloc W (.cells #[.int .i64 fr, .int .i64 rd, .slice S bl cs] 43))) := below_alloc (below_drew1 (Below.refl W.heap.size W)) _
    refine hK _ _ (fun _ => hSB _ b1) ?_
    have I8 : Aside0 ((World.drew (World.alloc W (.cells #[.int .i64 fr, .int .i64 rd, .slice S bl cs] 43))).heap[W.heap.size]? = some (.cells #[.int .i64 fr, .int .i64 rd, .slice S bl cs] 43 (0, 0))) := ⟨blk_new W.drew (.cells #[.int .i64 fr, .int .i64 rd, .slice S bl cs] 43)⟩
    have hib : W.heap.size ≤ W.heap.size := ((below_drew1 (Below.refl W.heap.size W))).size
    have HIB := Aside0.mk hib
    have B8 := Aside0.mk b1
    clear hK K b1 hib

    obtain ⟨V8, hV8⟩ : ∃ V8, (World.drew (World.alloc W (.cells #[.int .i64 fr, .int .i64 rd, .slice S bl cs] 43))) = V8 := ⟨_, rfl⟩

    rw [hV8] at I8 B8 ⊢
    clear hV8
    (try simp only [Act.put, List.setIfInBounds_toArray, List.set_cons_zero, List.set_cons_succ])
    refine oneN (i := 1) (by kernel_rfl) rfl (fun K hK => ?_)
    go_simp
    have b1 : Below W.heap.size W (World.alloc V8 (.cells #[] 43)) := below_alloc B8.out _
    refine hK _ _ (fun _ => hSB _ b1) ?_
    have E1 : Aside0 (RowAt (World.alloc V8 (.cells #[] 43)) W.heap.size 43 3 (some ⟨V8.heap.size, 0, none⟩) 0 0 []) := ⟨row_empty V8 W.heap.size 43 3 (B8.out).size⟩
    have B1 := Aside0.mk b1
    have I2 := Aside0.mk (blk_below I8.out (below_alloc (Below.refl V8.heap.size V8) (.cells #[] 43)))
    have HEI : Aside0 (W.heap.size ≠ V8.heap.size) := ⟨fun e => by have := blk_lt I8.out; omega⟩
    clear I8
    have I8 := I2
    clear I2
    clear hK K b1
    obtain ⟨e0, he0⟩ : ∃ e0, V8.heap.size = e0 := ⟨_, rfl⟩
    obtain ⟨V1, hV1⟩ : ∃ V1, (World.alloc V8 (.cells #[] 43)) = V1 := ⟨_, rfl⟩
    rw [he0] at E1 HEI ⊢
    rw [hV1] at E1 B1 I8 ⊢
    clear he0 hV1
    (try simp only [Act.put, List.setIfInBounds_toArray, List.set_cons_zero, List.set_cons_succ])
    refine oneN (i := 6) (by kernel_rfl) rfl (fun K hK => ?_)
    have hwz : W.heap.size ≤ V1.heap.size := (B1.out).size
    obtain ⟨hi43, hz43, hs43, hb43⟩ := HZ43.out
    have hsr : Src Try.prog 3 38 (.slice AP n cp) n (pf Q) V1 := src_row Try.underlying38 (HPR.out.upd (S := fun _ => False) (Upd.of_below B1.out) (fun _ _ h => h)) HONE.out
    refine step_append_at rfl (.tmp 10) (.tmp 14) 38 38 rfl W.heap.size 43 i43 _ 3 40 Try.underlying38 hi43 hz43 hs43 hb43 rfl (some ⟨e0, 0, none⟩) 0 0 [] rfl E1.out (.slice AP n cp) n (pf Q) rfl hsr (by unfold maxLen; omega) (by omega) hwz ?_
    intro A1 ca1 V6 hown hgrow hat
    rw [Nat.zero_add, List.nil_append] at hown
    have b1 : Below W.heap.size W V6 := below_app3 B1.out E1.out hgrow
    refine hK _ _ (fun _ => hSB _ b1) ?_
    rw [Nat.zero_add]
    have R6 := Aside0.mk hown
    have B6 := Aside0.mk b1
    have I2 := Aside0.mk ((hgrow.block W.heap.size (blk_lt I8.out) (fun e => HEI.out (by cases e; rfl))).trans I8.out)
    have HE2 : Aside0 (∀ j, A1.map (·.block) = some j → W.heap.size ≠ j) := ⟨fun j hj e => by
      rcases hat with h | h
      · rw [hj] at h; cases h; exact HEI.out e
      · rw [hj] at h; cases h; have := blk_lt I8.out; omega⟩
    clear I8 HEI
    have I8 := I2
    have HEI := HE2
    clear I2 HE2
    clear hK K b1 hown hgrow hat hsr hwz hi43 hz43 hs43 hb43 E1
    (try simp only [Act.put, List.setIfInBounds_toArray, List.set_cons_zero, List.set_cons_succ])
    refine oneN (i := 9) (by kernel_rfl) rfl (fun K hK => ?_)
    have hwz : W.heap.size ≤ V6.heap.size := (B6.out).size
    obtain ⟨hi43, hz43, hs43, hb43⟩ := HZ43.out
    have hcc : ∀ j u, ([.int .i64 fr, .int .i64 rd, .slice S bl cs] : List Value)[j]? = some u → V6.cell? ((⟨W.heap.size, 0, none⟩ : Addr).add j) = some u := fun j u hj => by
      rw [Addr.add_lit, blk_cell I8.out, Nat.zero_add]
      simpa using hj
    refine step_append_at rfl (.tmp 15) (.tmp 17) 38 38 rfl W.heap.size 43 i43 _ 3 40 Try.underlying38 hi43 hz43 hs43 hb43 rfl A1 n ca1 (pf Q) rfl R6.out (.slice (some ⟨W.heap.size, 0, none⟩) 1 1) 1 [.int .i64 fr, .int .i64 rd, .slice S bl cs] rfl (Src.ofSlice _ Try.underlying38 ⟨W.heap.size, 0, none⟩ 1 1 [.int .i64 fr, .int .i64 rd, .slice S bl cs] rfl hcc (by simp [Value.oneCell'])) (by unfold maxLen; omega) (by omega) hwz ?_
    intro A9 ca9 w9 hown hgrow hat
    have b9 : Below W.heap.size W w9 := below_app3 B6.out R6.out hgrow
    have hS9 := hSB _ b9
    refine hK _ _ (fun _ => hS9) ?_
    have O9 := Aside0.mk hown
    have B9 := Aside0.mk b9
    clear hK K hS b9 hown hgrow hat hcc hwz hi43 hz43 hs43 hb43 R6 I8 HEI HIB
    (try clear B1)
    (try clear B6)
    (try clear B8)
    obtain ⟨t0, t1, t2, t3, t4, t5⟩ := hS9
    clear t0 hSB
    (try simp only [Act.put, List.setIfInBounds_toArray, List.set_cons_zero, List.set_cons_succ])
    refine tailN2 10 (by kernel_rfl) (Nat.le_refl _) (by decide) (by kernel_rfl) ?_
    simp only [List.drop_succ_cons, List.drop_zero]
    go_upto_region 4 with (fail)
    obtain ⟨t, ht⟩ : ∃ t : Pt, ((fr, rd, b), Value.slice S bl cs) = t := ⟨_, rfl⟩
    have hpf : pf Q ++ [.int .i64 fr, .int .i64 rd, .slice S bl cs] = pf (Q ++ [t]) := by rw [pf_append, ← ht]; rfl
    have ho9 := O9.out
    rw [hpf] at ho9
    have hAT : ∃ j, A9.map (·.block) = some j ∧ w.heap.size ≤ j := by
      rcases ho9.2 with ⟨_, e, _⟩ | ⟨g9, off, cur, e, hb9, _⟩
      · omega
      · exact ⟨g9, by rw [e]; rfl, by have := BW.out.size; omega⟩
    have HAT := Aside0.mk hAT
    have hR9 := RW.out.below B9.out
    have ho9b := ho9.mono (b2 := z.heap.size) (by have h1 := RW.out.2.1; have h2 := blk_lt RW.out.1; omega)
    have hln : (Q ++ [t]).length = n + 1 := by rw [List.length_append, HN.out]; rfl
    have hAB : ∀ p ∈ Q ++ [t], ArgB z p := by
      intro p hp
      rcases List.mem_append.1 hp with hp | hp
      · exact RW.out.2.2.2.2.2 p hp
      · rw [List.mem_singleton.1 hp, ← ht]; exact ARG.out
    refine wp_gen (fun V => V.heap[h]? = some (.cells #[.slice AL ql.length cl, .slice A9 (n + 1) ca9, .int .i64 lo] 49 (0, 0)) ∧ z.heap.size ≤ h ∧ RowAt V z.heap.size 29 1 AL ql.length cl (ql.map (·.2)) ∧ (∀ p ∈ ql, OwnQ z V p) ∧ RowAt V z.heap.size 43 3 A9 (n + 1) ca9 (pf (Q ++ [t])) ∧ Upd (fun j => j = h) w V) ⟨blk_put hR9.1 1 _ rfl, hR9.2.1, hR9.2.2.1.upd (set_h _) (fun j hj e => hR9.2.2.1.off hR9.1 (by decide) (by rw [hj, e])), fun p hp => (hR9.2.2.2.1 p hp).upd (set_h _) (fun j cs fr e1 e2 => by rw [e1, hR9.1] at e2; cases e2), ho9b.upd (set_h _) (fun j hj e => ho9b.off hR9.1 (by decide) (by rw [hj, e])), (Upd.of_below (below_step BW.out B9.out)).trans (set_h _)⟩ ?_
    have HABS := Aside0.mk hAB
    have HLN := Aside0.mk hln
    clear t1 t2 t3 t4 t5 O9 B9 hpf ho9 hAT hR9 ho9b hln hAB XW RW BW HZ43 HONE HPR ARG
    rintro V ⟨q1, q2, q3, q4, q5, q6⟩
    have e18 : V.cell? ⟨h, 1, none⟩ = some (.slice A9 (n + 1) ca9) := (blk_cell q1 1).trans rfl
    have f18 : V.frozen? ⟨h, 1, none⟩ = false := blk_frozen q1 1
    have e19 : V.cell? ⟨h, 2, none⟩ = some (.int .i64 lo) := (blk_cell q1 2).trans rfl
    have V1 := Aside0.mk q1
    have V2 := Aside0.mk q2
    have V3 := Aside0.mk q3
    have V4 := Aside0.mk q4
    have V5 := Aside0.mk q5
    have V6 := Aside0.mk q6
    clear q1 q2 q3 q4 q5 q6
    by_cases hh : 64 < n + 1
    · obtain rfl : n = 64 := by omega
      have hln := V5.out.len
      obtain ⟨A8, hcut, hr8, hb8⟩ : ∃ A8, sliced A9 1 65 ca9 3 = .slice A8 64 (ca9 - 1) ∧ RowAt V z.heap.size 43 3 A8 64 (ca9 - 1) (pf ((Q ++ [t]).drop 1)) ∧ A8.map (·.block) = A9.map (·.block) := by
        cases hqq : Q ++ [t] with
        | nil => simp at hqq
        | cons t0 Q0 =>
          have h1 := V5.out
          rw [hqq, pf_cons] at h1
          exact h1.tail rfl (by omega)
      have hsl : ∀ U, (Instr.slice 38 (.slice A9 65 ca9) (some (.int .i64 1)) none none).run Try.prog U = .ok (.slice A8 64 (ca9 - 1)) U := by
        intro U
        rw [run_slice_l (P := Try.prog) (w := U) (t := 38) (a := A9) (len := 65) (cap := ca9) (ht := Try.underlying38) (kl := .i64) (l := 1) (h0 := by omega) (h1 := by omega)]
        rw [← hcut]
        rfl
      have H8 := Aside0.mk hr8
      have HB8 := Aside0.mk hb8
      clear hcut hr8 hb8
      have hlo := HLO.out
      go_upto_region 6 with (fail)
      refine wp_gen (fun V2 => V2.heap[h]? = some (.cells #[.slice AL ql.length cl, .slice A8 64 (ca9 - 1), .int .i64 lo] 49 (0, 0)) ∧ RowAt V2 z.heap.size 29 1 AL ql.length cl (ql.map (·.2)) ∧ (∀ p ∈ ql, OwnQ z V2 p) ∧ RowAt V2 z.heap.size 43 3 A8 64 (ca9 - 1) (pf ((Q ++ [t]).drop 1)) ∧ Upd (fun j => j = h) w V2) ⟨blk_put V1.out 1 _ rfl, V3.out.upd (set_h _) (fun j hj e => V3.out.off V1.out (by decide) (by rw [hj, e])), fun p hp => (V4.out p hp).upd (set_h _) (fun j cs fr e1 e2 => by rw [e1, V1.out] at e2; cases e2), H8.out.upd (set_h _) (fun j hj e => H8.out.off V1.out (by decide) (by rw [hj, e])), V6.out.trans (set_h _)⟩ ?_
      clear V1 V3 V4 V5 V6 H8 e18 e19 f18 hsl
      rintro V9 ⟨q1, q3, q4, q5, q6⟩
      have e19 : V9.cell? ⟨h, 2, none⟩ = some (.int .i64 lo) := (blk_cell q1 2).trans rfl
      have f19 : V9.frozen? ⟨h, 2, none⟩ = false := blk_frozen q1 2
      have V1 := Aside0.mk q1
      have V3 := Aside0.mk q3
      have V4 := Aside0.mk q4
      have V5 := Aside0.mk q5
      have V6 := Aside0.mk q6
      clear q1 q3 q4 q5 q6
      go_wp2
      go_ret
      have hh2 : heldQ (Q ++ [t]) = (Q ++ [t]).drop 1 := by unfold heldQ; rw [if_pos (by rw [HLN.out]; decide)]
      have hl2 : ((Q ++ [t]).drop 1).length = 64 := by rw [List.length_drop, HLN.out]
      refine ⟨rfl, A8, ca9 - 1, .slice S bl cs, ⟨?_, V2.out, ?_, ?_, ?_, ?_⟩, ?_, ?_⟩
      · rw [ht, hh2, hl2, HN.out, if_pos (by decide)]
        exact blk_put V1.out 2 _ rfl
      · exact V3.out.upd (set_h _) (fun j hj e => V3.out.off V1.out (by decide) (by rw [hj, e]))
      · exact fun p hp => (V4.out p hp).upd (set_h _) (fun j cs fr e1 e2 => by rw [e1, V1.out] at e2; cases e2)
      · rw [ht, hh2, hl2]
        exact V5.out.upd (set_h _) (fun j hj e => V5.out.off V1.out (by decide) (by rw [hj, e]))
      · rw [ht, hh2]
        exact fun p hp => HABS.out p (List.mem_of_mem_drop hp)
      · exact V6.out.trans (set_h _)
      · rw [HB8.out]; exact HAT.out
    · have hh2 : ¬ ((64 : Int) < (n : Int) + 1) := by omega
      go_wp2
      go_ret
      have hh3 : heldQ (Q ++ [t]) = Q ++ [t] := by unfold heldQ; rw [if_neg (by rw [HLN.out]; exact hh)]
      refine ⟨rfl, A9, ca9, .slice S bl cs, ⟨?_, V2.out, V3.out, V4.out, ?_, ?_⟩, V6.out, HAT.out⟩
      · rw [ht, hh3, HLN.out, HN.out, if_neg hh]
        exact V1.out
      · rw [ht, hh3, HLN.out]; exact V5.out
      · rw [ht, hh3]; exact HABS.out
end Go.Proofs.Ytmofahlmcpeanaa.Hs8
