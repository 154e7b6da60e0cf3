/- Any acts on a host. -/
import Derived.Test.YtmofahlmcpeanaaProg
import Derived.Below
import Derived.Deep.Draws
import Derived.Deep.AppendLies
import Derived.Maps.AppendAt
import Derived.OwnWalk
import Derived.Laws.BytesArg
import Derived.Laws.MakeOwn
import Derived.Laws.OwnMore
import Derived.Deep.OwnRows
import Derived.Tactics
import Derived.Lib.ConvBytes
import Derived.Laws.Slices
import Derived.WalkKit
import Derived.KernelRfl
import Derived.RowKit3
import Derived.Deep.LoopGhost
import Derived.Deep.QuietTactic
import Derived.BigQuiet
import Derived.WideLaws
import Derived.Deep.DeepCutAuto
import Derived.Deep.CutBlock
import Derived.Deep.RegionHeld3
import Derived.Laws.Rows
import Derived.Lib.AppendStr
import Derived.ArgAppend
import Derived.Laws.IdiomCopy
import Derived.OrdersHeld
import Derived.Laws.BitsLemmas
import Derived.RowKit
import Derived.RegionTactic
import Derived.ChangeAlike
import Derived.Outline
import Derived.LoopTactic
import Derived.WalkSpells
import Derived.WalkLawsBesides
import Derived.Lib.Hide
import Derived.StillTailTactics
import Derived.Deep.RegionWith
import Derived.Deep.RegionLaw
import Derived.Deep.DeepFit
import Derived.Deep.DeepMust
import Derived.Test.YtmofahlmcpeanaaWWords
import Derived.Test.YtmofahlmcpeanaaWLast
import Derived.Test.YtmofahlmcpeanaaWTab
import Derived.Test.YtmofahlmcpeanaaWFour
import Derived.Test.YtmofahlmcpeanaaWQPut
import Derived.Test.YtmofahlmcpeanaaWApart
import Derived.Test.YtmofahlmcpeanaaWArr
import Derived.Test.YtmofahlmcpeanaaWZeros
import Derived.Test.YtmofahlmcpeanaaWFoot
import Derived.Test.YtmofahlmcpeanaaWKept
import Derived.Test.YtmofahlmcpeanaaWShare
import Derived.Test.YtmofahlmcpeanaaWN
import Derived.Test.YtmofahlmcpeanaaWFootNe
import Derived.Test.YtmofahlmcpeanaaWAt
import Derived.Test.YtmofahlmcpeanaaWEqStruct
import Derived.Test.YtmofahlmcpeanaaWRepsOne
import Derived.Test.YtmofahlmcpeanaaWInv
import Derived.Test.YtmofahlmcpeanaaWInvWords
import Derived.Test.YtmofahlmcpeanaaWGuard
import Derived.Test.YtmofahlmcpeanaaWNEv
import Derived.Test.YtmofahlmcpeanaaWMore
import Derived.Test.YtmofahlmcpeanaaHs9
namespace Go.Proofs.Ytmofahlmcpeanaa.Hsa
open Go.RowKit Go.Proofs.YtmofahlmcpeanaaW.PrintWords Go.Proofs.YtmofahlmcpeanaaW.PrintLast Go.Proofs.YtmofahlmcpeanaaW.PrintMore 
attribute [local go_sem] max2_int min2_int max_two min_two max_three min_three max_four min_four
set_option linter.unusedVariables false
set_option linter.unusedSimpArgs false
open Go.Joins Go.Proofs.Ytmofahlmcpeanaa.Hs1 Go.Proofs.Ytmofahlmcpeanaa.Hs2 Go.Proofs.Ytmofahlmcpeanaa.Hs3 Go.Proofs.Ytmofahlmcpeanaa.Hs4 Go.Proofs.Ytmofahlmcpeanaa.Hs5 Go.Proofs.Ytmofahlmcpeanaa.Hs6 Go.Proofs.Ytmofahlmcpeanaa.Hs7 Go.Proofs.Ytmofahlmcpeanaa.Hs8 Go.Proofs.Ytmofahlmcpeanaa.Hs9
attribute [local go_sem] cellS1 frozenS1 cellS2 frozenS2 cellS3 frozenS3 cellS4 frozenS4

theorem u8b {x : Int} (h : (Lit.int .u8 x).wf = true) : 0 ≤ x ∧ x ≤ 255 := by
  simp [Lit.wf, IntKind.min, IntKind.max, IntKind.signed, IntKind.bits] at h
  omega
theorem rd_mem (l : List Int) (k : Nat) (hk : k < l.length) : Go.Proofs.YtmofahlmcpeanaaW.PrintWords.rd l k ∈ l := by
  unfold Go.Proofs.YtmofahlmcpeanaaW.PrintWords.rd
  rw [Int.toNat_natCast, List.getD_eq_getElem?_getD, List.getElem?_eq_getElem hk]
  exact List.getElem_mem hk
theorem g_not {z w : World} {g a : Nat} {q : List (List Int)} {iv : Value} {lo : Int} {t : TypeId} (h : RingIs z w g a q iv lo) (ht : 40 ≠ t) : ∀ j cs fr, j = g → w.heap[j]? ≠ some (.cells cs t fr) := by
  intro j cs fr e1 e2
  obtain ⟨cs2, h1, _⟩ := ring_blk h
  rw [e1, h1] at e2
  cases e2
  exact ht rfl
theorem h_not {z w : World} {h : Nat} {ql : List Lt} {AL : Option Addr} {cl : Nat} {Q : List Pt} {AP : Option Addr} {cp : Nat} {lo : Int} {t : TypeId} (k : IsRef z w h ql AL cl Q AP cp lo) (ht : 49 ≠ t) : ∀ j cs fr, j = h → w.heap[j]? ≠ some (.cells cs t fr) := by
  intro j cs fr e1 e2
  rw [e1, k.1] at e2
  cases e2
  exact ht rfl
theorem ap_not {z w : World} {h g a : Nat} {q : List (List Int)} {iv : Value} {lo' : Int} {ql : List Lt} {AL : Option Addr} {cl : Nat} {Q : List Pt} {AP : Option Addr} {cp : Nat} {lo : Int} (r : RingIs z w g a q iv lo') (k : IsRef z w h ql AL cl Q AP cp lo) : ∀ j, AP.map (·.block) = some j → ¬ j = g := by
  intro j hj e
  obtain ⟨cs2, h1, _⟩ := ring_blk r
  exact k.2.2.2.2.1.off h1 (by decide) (by rw [hj, e])
theorem a_not {z w : World} {g a : Nat} {q : List (List Int)} {iv : Value} {lo' : Int} {A : Option Addr} {cap : Nat} {Q : List Pt} (r : RingIs z w g a q iv lo') (k : IsIn z w A cap Q) : ∀ j, A.map (·.block) = some j → ¬ j = g := by
  intro j hj e
  obtain ⟨cs2, h1, _⟩ := ring_blk r
  exact k.1.off h1 (by decide) (by rw [hj, e])
theorem a_not2 {z w : World} {h : Nat} {ql : List Lt} {AL : Option Addr} {cl : Nat} {QR : List Pt} {AP : Option Addr} {cp : Nat} {lo : Int} {A : Option Addr} {cap : Nat} {Q : List Pt} (k : IsIn z w A cap Q) (r : IsRef z w h ql AL cl QR AP cp lo) : ∀ j, A.map (·.block) = some j → ¬ j = h := by
  intro j hj e
  exact k.1.off r.1 (by decide) (by rw [hj, e])
theorem h_ge {z w : World} {h : Nat} {ql : List Lt} {AL : Option Addr} {cl : Nat} {Q : List Pt} {AP : Option Addr} {cp : Nat} {lo : Int} (k : IsRef z w h ql AL cl Q AP cp lo) : ∀ j, j = h → z.heap.size ≤ j := fun j e => by rw [e]; exact k.2.1
theorem g_ge {z w : World} {g a : Nat} {q : List (List Int)} {iv : Value} {lo' : Int} (r : RingIs z w g a q iv lo') : ∀ j, j = g → z.heap.size ≤ j := fun j e => by obtain ⟨cs2, _, h1⟩ := ring_blk r; rw [e]; exact h1
theorem _root_.Go.Proofs.Ytmofahlmcpeanaa.Hs1.Upd.to_below2 {S : Nat → Prop} {z a b : World} (hU : Upd S a b) (hB : Below z.heap.size z a) (hS : ∀ j, S j → z.heap.size ≤ j) : Below z.heap.size z b := hU.to_below hB (Nat.le_refl _) hS
theorem X1h {z w : World} {h k : Nat} {ad : Addr} {v : Value} {ql : List Lt} {AL : Option Addr} {cl : Nat} {Q : List Pt} {AP : Option Addr} {cp : Nat} {lo : Int} (r : IsRef z w h ql AL cl Q AP cp lo) (hx : z.cell? (ad.add k) = some v) : ¬ (ad.add k).block = h := fun e => by
  have h1 := World.block_lt_of_cell? z _ hx
  have h2 := r.2.1
  omega
def Inv (z w : World) (g h : Nat) (nq : Nat) (lo : Int) : Prop := ∃ (a : Nat) (q : List (List Int)) (ql : List Lt) (A : Option Addr) (cap : Nat) (QP : List Pt) (AP : Option Addr) (cp : Nat) (QR : List Pt) (AL : Option Addr) (cl : Nat),
  RingIs z w g a q (.slice A QP.length cap) lo ∧ IsIn z w A cap QP ∧ IsRef z w h ql AL cl QR AP cp lo ∧ Below z.heap.size z w ∧ ql.map (·.1) = q ∧ QP.map (·.1) = QR.map (·.1) ∧ QP.length ≤ 64 ∧ (∀ j, A.map (·.block) = some j → ¬ AP.map (·.block) = some j) ∧ q.length = nq
theorem Inv.drewN {z w : World} {g h nq : Nat} {lo : Int} (k : Inv z w g h nq lo) (m : Nat) : Inv z (w.drewN m) g h nq lo := by
  obtain ⟨a, q, ql, A, cap, QP, AP, cp, QR, AL, cl, f1, f2, f3, f4, f5⟩ := k
  exact ⟨a, q, ql, A, cap, QP, AP, cp, QR, AL, cl, f1.drewN m, f2, f3, pw_below_drewN f4 m, f5⟩
theorem own_row {w : World} {b size n c : Nat} {e : TypeId} {A : Option Addr} {xs : List Value} (h : w.ownsRow b e size (.slice A n c) n xs) : RowAt w b e size A n c xs := by
  refine ⟨h.1, ?_⟩
  rcases h.2 with ⟨e1, e2⟩ | ⟨g, cap, cur, e1, h2, h3, h4, h5, h6, h7⟩
  · cases e1; exact Or.inl ⟨rfl, rfl, rfl⟩
  · cases e1
    exact Or.inr ⟨g, 0, cur, rfl, h2, h3, h4, h5, by omega, by rw [List.drop_zero]; exact h7⟩
theorem C_none (w : World) : Kd.C (Kd.int .u8) w none ([] : List Int).length [] := Kd.C_of_reads (d := (0 : Int)) (h1 := fun _ => rfl) ⟨rfl, by simp, fun hp => absurd hp (by simp)⟩
theorem held_len {Q : List Pt} (h : Q.length ≤ 64) (t : Pt) : (heldQ (Q ++ [t])).length ≤ 64 := by
  unfold heldQ
  split
  · rw [List.length_drop, List.length_append]; simp; omega
  · rename_i h2; omega
theorem held_map {P Q : List Pt} (he : P.map (·.1) = Q.map (·.1)) (hl : P.length = Q.length) (p : Int × Int × List Int) (v u : Value) : (heldQ (P ++ [(p, v)])).map (·.1) = (heldQ (Q ++ [(p, u)])).map (·.1) := by
  have h1 : (P ++ [(p, v)]).map (·.1) = (Q ++ [(p, u)]).map (·.1) := by rw [List.map_append, List.map_append, he]; rfl
  have h2 : (P ++ [(p, v)]).length = (Q ++ [(p, u)]).length := by rw [List.length_append, List.length_append, hl]; rfl
  unfold heldQ
  rw [h2]
  split
  · rw [List.map_drop, List.map_drop, h1]
  · exact h1
set_option maxRecDepth 100000 in
set_option maxHeartbeats 4000000 in
theorem plays_any (A0 A1 A2 : Option Addr) (c0 c1 c2 n1 : Nat) (l0 : List Int) (sf : Nat → Option Addr) (cpf : Nat → Nat) (bf : Nat → List Int) (l2 : List Int) (w : World) (hr0 : Kd.C (Kd.int .u8) w A0 l0.length l0) (hr1 : Rd.BytesAt w A1 n1 sf cpf bf) (hr2 : Kd.C (Kd.int .i64) w A2 l2.length l2) (hw0 : ∀ x ∈ l0, (Lit.int .u8 x).wf = true) (hm0 : l0.length ≤ maxLen) (hm1 : n1 ≤ maxLen) (hm2 : l2.length ≤ maxLen) : Calls Try.prog 5 #[.slice A0 l0.length c0, .slice A1 n1 c1, .slice A2 l2.length c2] w fun en w' => en = .returned (.bool true) ∧ Below w.heap.size w w' := by
  have HR0 := Aside0.mk hr0
  have HR1 := Aside0.mk hr1
  have HR2 := Aside0.mk hr2
  have HW0 := Aside0.mk hw0
  unfold maxLen at hm0 hm1 hm2
  clear hr0 hr1 hr2 hw0
  go_enter Try.func5, Try.ntmps5
  go_upto_region 2 with (first | (go_at_call 6; go_loud (refine (new_ring _).mono ?_; rintro en w1 ⟨g, rfl, a1, a2⟩; have J1 := Aside0.mk a1; have J2 := Aside0.mk a2; clear a1 a2)))
  go_wp2
  go_loopw [9] (fun vi wr => ∃ (k nq : Nat) (lo : Int), vi = .int .i64 k ∧ k ≤ 400 ∧ (0 ≤ lo ∧ lo ≤ k) ∧ Aside0 (Inv w wr g w1.heap.size nq lo)) (fun vi _ => 400 - (intOf vi).toNat)
  case atStart => exact ⟨0, 0, 0, rfl, by omega, by omega, ⟨0, [], [], none, 0, [], none, 0, [], none, 0, ring_upd (S := fun _ => False) J1.out (Upd.of_below (below_alloc (Below.refl _ _) _)) (fun h => h) (fun _ _ _ h => h.elim), ⟨RowAt.nil _ _ _ _, (fun t ht => by cases ht)⟩, ⟨blk_new _ _, J2.out.size, RowAt.nil _ _ _ _, (fun p hp => by cases hp), RowAt.nil _ _ _ _, (fun t ht => by cases ht)⟩, below_alloc J2.out _, rfl, rfl, by simp, (fun j hj => by cases hj), rfl⟩⟩
  case round =>
    clear J1 J2
    obtain ⟨h, hh⟩ : ∃ h, w1.heap.size = h := ⟨_, rfl⟩
    rw [hh] at hrel ⊢
    clear hh
    obtain ⟨k, nq, lo, rfl, hk, hlo, HI⟩ := hrel
    obtain ⟨a, q, ql, A, cap, QP, AP, cp, QR, AL, cl, f1, f2, f3, f4, f5, f6, f7, f8, f9⟩ := HI.out
    have Q1 := Aside0.mk f1
    have Q2 := Aside0.mk f2
    have Q3 := Aside0.mk f4
    have Q4 := Aside0.mk f3
    have E5 := Aside0.mk f5
    have E6 := Aside0.mk f6
    have E7 := Aside0.mk f7
    have E8 := Aside0.mk f8
    have E9 := Aside0.mk f9
    obtain ⟨np, hnp⟩ : ∃ np, QP.length = np := ⟨_, rfl⟩
    have HNP := Aside0.mk hnp
    have HNR : Aside0 (QR.length = np) := ⟨by have := congrArg List.length f6; rw [List.length_map, List.length_map, hnp] at this; exact this.symm⟩
    have HQL : Aside0 (ql.length = q.length) := ⟨by rw [← f5, List.length_map]⟩
    have hn64 : np ≤ 64 := by rw [← hnp]; exact f7
    clear f1 f2 f3 f4 f5 f6 f7 f8 f9 HI hnp
    by_cases c5 : k < l0.length
    · have c5b : decide ((k : Int) < (l0.length : Int)) = true := decide_eq_true (by omega)
      by_cases c6 : k < n1
      · have c6b : decide ((k : Int) < (n1 : Int)) = true := decide_eq_true (by omega)
        by_cases c7 : k < l2.length
        · have c7b : decide ((k : Int) < (l2.length : Int)) = true := decide_eq_true (by omega)
          by_cases c8 : k < 400
          · have c8b : decide ((k : Int) < 400) = true := decide_eq_true (by omega)
            obtain ⟨ad0, e0, hx0⟩ := Kd.at_int HR0.out (k : Int) (by omega) (by omega)
            cases e0
            rw [Int.toNat_natCast] at hx0
            obtain ⟨ad2, e2, hx2⟩ := Kd.at_int HR2.out (k : Int) (by omega) (by omega)
            cases e2
            rw [Int.toNat_natCast] at hx2
            obtain ⟨⟨ad1, e1, hx1⟩, hC, _, hbm, hbw⟩ := HR1.out k c6
            subst e1
            have hq := u8b (HW0.out _ (rd_mem l0 k c5))
            obtain ⟨kd, hkd⟩ : ∃ v, Go.Proofs.YtmofahlmcpeanaaW.PrintWords.rd l0 k = v := ⟨_, rfl⟩
            rw [hkd] at hx0 hq
            obtain ⟨fr, hfr⟩ : ∃ v, Go.Proofs.YtmofahlmcpeanaaW.PrintWords.rd l2 k = v := ⟨_, rfl⟩
            rw [hfr] at hx2
            obtain ⟨s, hs⟩ : ∃ s, bf k = s := ⟨_, rfl⟩
            rw [hs] at hx1 hC hbm
            obtain ⟨S0, hS0⟩ : ∃ S0, sf k = S0 := ⟨_, rfl⟩
            rw [hS0] at hx1 hC
            obtain ⟨cq, hcq⟩ : ∃ cq, cpf k = cq := ⟨_, rfl⟩
            rw [hcq] at hx1
            obtain ⟨sl, hsl⟩ : ∃ sl, s.length = sl := ⟨_, rfl⟩
            have HC := Aside0.mk hC
            have HSL := Aside0.mk hsl
            rw [hsl] at hx1 hbm
            unfold maxLen at hbm
            have X0 := Aside0.mk hx0
            have X1 := Aside0.mk hx1
            have kz0 : (0 : Int) ≤ (k : Int) := by omega
            have kz1 : (k : Int) < (l0.length : Int) := by omega
            have kz2 : (k : Int) < (n1 : Int) := by omega
            have kz3 : (k : Int) < (l2.length : Int) := by omega
            have d1 : wr.drew.cell? (ad1.add k) = some (.slice S0 sl cq) := cell_bel Q3.out hx1
            have d2 : wr.drew.cell? (ad2.add k) = some (.int .i64 fr) := cell_bel Q3.out hx2
            clear hx0 hx1 hx2 hkd hfr hs hS0 hcq hC hbw hsl
            go_upto_region 8 with (fail)
            refine region_N (fun U => U.cell? (ad1.add k) = some (.slice S0 sl cq) ∧ U.cell? (ad2.add k) = some (.int .i64 fr)) 11 (by kernel_rfl) ⟨d1, d2⟩ (fun hS => ?_)
            clear d1 d2
            refine takeN (i := 0) (v := ?_) rfl (by kernel_rfl) (by kernel_rfl) (by kernel_rfl) (by kernel_rfl) (fun _ _ _ h => h) (Or.inl ⟨by rfl, ?_⟩) hS ?_
            rotate_left
            · (intro U hSU; (try dsimp only at hSU); go_simp; all_goals (first | done | (with_reducible rfl)))
            (try simp only [Act.put, List.setIfInBounds_toArray, List.set_cons_zero, List.set_cons_succ])
            refine takeN (i := 1) (v := ?_) rfl (by kernel_rfl) (by kernel_rfl) (by kernel_rfl) (by kernel_rfl) (fun _ _ _ h => h) (Or.inl ⟨by rfl, ?_⟩) hS ?_
            rotate_left
            · (intro U hSU; (try dsimp only at hSU); go_simp; all_goals (first | done | (with_reducible rfl)))
            (try simp only [Act.put, List.setIfInBounds_toArray, List.set_cons_zero, List.set_cons_succ])
            refine takeN (i := 2) (v := ?_) rfl (by kernel_rfl) (by kernel_rfl) (by kernel_rfl) (by kernel_rfl) (fun _ _ _ h => h) (Or.inl ⟨by rfl, ?_⟩) hS ?_
            rotate_left
            · (intro U hSU; (try dsimp only at hSU); go_simp; all_goals (first | done | (with_reducible rfl)))
            (try simp only [Act.put, List.setIfInBounds_toArray, List.set_cons_zero, List.set_cons_succ])
            refine takeN (i := 3) (v := ?_) rfl (by kernel_rfl) (by kernel_rfl) (by kernel_rfl) (by kernel_rfl) (fun _ _ _ h => h) (Or.inl ⟨by rfl, ?_⟩) hS ?_
            rotate_left
            · (intro U hSU; (try dsimp only at hSU); go_simp; all_goals (first | done | (with_reducible rfl)))
            (try simp only [Act.put, List.setIfInBounds_toArray, List.set_cons_zero, List.set_cons_succ])
            refine takeN (i := 4) (v := ?_) rfl (by kernel_rfl) (by kernel_rfl) (by kernel_rfl) (by kernel_rfl) (fun _ _ _ h => h) (Or.inl ⟨by rfl, ?_⟩) hS ?_
            rotate_left
            · (intro U hSU; (try dsimp only at hSU); go_simp; all_goals (first | done | (with_reducible rfl)))
            (try simp only [Act.put, List.setIfInBounds_toArray, List.set_cons_zero, List.set_cons_succ])
            refine takeN (i := 5) (v := ?_) rfl (by kernel_rfl) (by kernel_rfl) (by kernel_rfl) (by kernel_rfl) (fun _ _ _ h => h) (Or.inl ⟨by rfl, ?_⟩) hS ?_
            rotate_left
            · (intro U hSU; (try dsimp only at hSU); go_simp; all_goals (first | done | (with_reducible rfl)))
            (try simp only [Act.put, List.setIfInBounds_toArray, List.set_cons_zero, List.set_cons_succ])
            refine takeN (i := 6) (v := ?_) rfl (by kernel_rfl) (by kernel_rfl) (by kernel_rfl) (by kernel_rfl) (fun _ _ _ h => h) (Or.inl ⟨by rfl, ?_⟩) hS ?_
            rotate_left
            · (intro U hSU; (try dsimp only at hSU); go_simp; all_goals (first | done | (with_reducible rfl)))
            (try simp only [Act.put, List.setIfInBounds_toArray, List.set_cons_zero, List.set_cons_succ])
            refine takeN (i := 7) (v := ?_) rfl (by kernel_rfl) (by kernel_rfl) (by kernel_rfl) (by kernel_rfl) (fun _ _ _ h => h) (Or.inl ⟨by rfl, ?_⟩) hS ?_
            rotate_left
            · (intro U hSU; (try dsimp only at hSU); go_simp; all_goals (first | done | (with_reducible rfl)))
            (try simp only [Act.put, List.setIfInBounds_toArray, List.set_cons_zero, List.set_cons_succ])
            refine takeN (i := 8) (v := ?_) rfl (by kernel_rfl) (by kernel_rfl) (by kernel_rfl) (by kernel_rfl) (fun _ _ _ h => h) (Or.inl ⟨by rfl, ?_⟩) hS ?_
            rotate_left
            · (intro U hSU; (try dsimp only at hSU); go_simp; all_goals (first | done | (with_reducible rfl)))
            (try simp only [Act.put, List.setIfInBounds_toArray, List.set_cons_zero, List.set_cons_succ])
            refine takeN (i := 9) (v := ?_) rfl (by kernel_rfl) (by kernel_rfl) (by kernel_rfl) (by kernel_rfl) (fun _ _ _ h => h) (Or.inl ⟨by rfl, ?_⟩) hS ?_
            rotate_left
            · (intro U hSU; (try dsimp only at hSU); go_simp; all_goals (first | done | (with_reducible rfl)))
            (try simp only [Act.put, List.setIfInBounds_toArray, List.set_cons_zero, List.set_cons_succ])
            refine oneN (i := 10) (by kernel_rfl) rfl (fun K hK => ?_)
            go_simp
            refine hK _ _ (fun _ => ⟨cell_bel (below_alloc (Below.refl _ _) _) hS.1, cell_bel (below_alloc (Below.refl _ _) _) hS.2⟩) ?_
            clear hK K hS
            (try simp only [Act.put, List.setIfInBounds_toArray, List.set_cons_zero, List.set_cons_succ])
            refine tailN2 11 (by kernel_rfl) (Nat.le_refl _) (by decide) (by kernel_rfl) ?_
            simp only [List.drop_succ_cons, List.drop_zero]
            go_upto_region 9 with (fail)
            have hwr : Below wr.heap.size wr wr := Below.refl _ _
            refine wp_gen (fun W => W.heap[wr.heap.size]? = some (.cells #[.int .i64 fr, .int .i64 k, .slice S0 sl cq] 43 (0, 0)) ∧ Below wr.heap.size wr W) ⟨blk_new _ _, below_drew1 (below_alloc hwr _)⟩ ?_
            obtain ⟨bx, hbx⟩ : ∃ bx, wr.heap.size = bx := ⟨_, rfl⟩
            have HBX := Aside0.mk hbx
            rintro W ⟨q1, q2⟩
            rw [hbx] at q1
            have XW := Aside0.mk q1
            have BB := Aside0.mk (below_step Q3.out q2)
            have RW := Aside0.mk (ring_upd (S := fun _ => False) Q1.out (Upd.of_below q2) (fun h => h) (fun _ _ _ h => h.elim))
            have IW := Aside0.mk (IsIn.upd (S := fun _ => False) Q2.out (Upd.of_below q2) (fun _ _ _ h => h.elim) (fun _ _ h => h))
            have FW := Aside0.mk (Q4.out.below q2)
            have w1 : W.cell? (ad0.add k) = some (.int .u8 kd) := cell_bel BB.out X0.out
            have hzb : w.heap.size ≤ bx := by rw [← hbx]; exact Q3.out.size
            have HZB := Aside0.mk hzb
            have HAB : Aside0 (∀ j, A.map (·.block) = some j → j < bx) := ⟨fun j hj => by have := (Q2.out.1.lt j hj).2; omega⟩
            clear q1 q2 Q1 Q2 Q3 Q4 hbx hwr hzb
            rw [HBX.out]
            obtain ⟨md, hmd⟩ : ∃ md : Int, kd % 8 = md := ⟨_, rfl⟩
            have hmr : 0 ≤ md ∧ md < 8 := by omega
            have hmt : kd.tmod 8 = md := by rw [Int.tmod_eq_emod_of_nonneg (by omega)]; exact hmd
            have HHG : Aside0 (h ≠ g) := ⟨fun e => by obtain ⟨cs, h1, _⟩ := ring_blk RW.out; rw [← e, FW.out.1] at h1; cases h1⟩
            have hm16 := ring_le RW.out
            rcases (show md = 0 ∨ md = 1 ∨ md = 2 ∨ md = 3 ∨ md = 4 ∨ md = 5 ∨ md = 6 ∨ md = 7 by omega) with hm | hm | hm | hm | hm | hm | hm | hm
            · subst hm
              by_cases hlong : 16 < sl
              · go_upto_region 15 with (fail)
                have hS0 : W.drew.cell? (ad1.add k) = some (.slice S0 sl cq) := cell_bel BB.out X1.out
                go_region_held3 (fun U => U.cell? (ad1.add k) = some (.slice S0 sl cq)) (first | exact hS2 | exact hS1 | exact hS0 | go_keep) (first | (go_at_call 7; go_loud (refine (submit_long g a q _ lo w W.drew RW.out (below_drew1 BB.out) S0 sl cq hlong (by omega)).mono ?_; rintro en w1 ⟨rfl, e8⟩; rw [e8]; clear e8)) | (go_at_call 14; go_loud (refine (ref_long h W.drew S0 sl cq hlong (by omega)).mono ?_; rintro en w2 ⟨rfl, e8⟩; rw [e8]; clear e8)))
                go_upto_region 25 with (fail)
                refine wp_gen (fun V => Aside0 (Inv w V g h nq lo)) ⟨a, q, ql, A, cap, QP, AP, cp, QR, AL, cl, RW.out, IW.out, FW.out, below_drew1 BB.out, E5.out, E6.out, E7.out, E8.out, E9.out⟩ ?_
                clear hS0
                obtain ⟨nq3, hnq3⟩ : ∃ n3, nq = n3 := ⟨_, rfl⟩
                obtain ⟨lo3, hlo3⟩ : ∃ n3, lo = n3 := ⟨_, rfl⟩
                rw [hnq3, hlo3]
                have hlb : 0 ≤ lo3 ∧ lo3 ≤ k + 1 := by omega
                clear hnq3 hlo3
                rintro W3 I3
                obtain ⟨a3, q3, ql3, A3, cap3, QP3, AP3, cp3, QR3, AL3, cl3, f1, f2, f3, f4, f5, f6, f7, f8, f9⟩ := I3.out
                have u0 : W3.cell? ⟨h, 0, none⟩ = some (.slice AL3 nq3 cl3) := by rw [← f9, ← f5, List.length_map]; exact (blk_cell f3.1 0).trans rfl
                have u2 : W3.cell? ⟨h, 2, none⟩ = some (.int .i64 lo3) := (blk_cell f3.1 2).trans rfl
                have F1 := Aside0.mk f1
                have F4 := Aside0.mk f4
                have F9 := Aside0.mk f9
                clear f1 f2 f3 f4 f5 f6 f7 f8 f9
                go_quiet ((first | (go_at_call 9; (have q := fun m => ring_waiting g a3 q3 _ lo3 w (W3.drewN m) (F1.out.drewN m) (pw_below_drewN F4.out m)); rw [F9.out] at q; exact Calls.quiet_of_same (q _)) | (go_at_call 13; exact Calls.quiet_of_same (ring_lost g a3 q3 _ lo3 w (W3.drewN _) (F1.out.drewN _)))))
                go_wp2
                go_roundw
                case rel => exact ⟨k + 1, nq3, lo3, by go_num, by omega, by omega, ⟨I3.out.drewN _⟩⟩
                case measure => simp [intOf]; omega
              by_cases hful : q.length = 16
              · go_upto_region 15 with (fail)
                have hS0 : W.drew.cell? (ad1.add k) = some (.slice S0 sl cq) := cell_bel BB.out X1.out
                go_region_held3 (fun U => U.cell? (ad1.add k) = some (.slice S0 sl cq)) (first | exact hS2 | exact hS1 | exact hS0 | go_keep) (first | (go_at_call 7; go_loud (refine (submit_full g a q _ lo w W.drew RW.out (below_drew1 BB.out) S0 sl cq (by omega) hful).mono ?_; rintro en w1 ⟨rfl, e8⟩; rw [e8]; clear e8)) | (go_at_call 14; go_loud (refine (ref_full h ql AL cl QR AP cp lo w W.drew FW.out S0 sl cq (by omega) (by rw [HQL.out]; exact hful)).mono ?_; rintro en w2 ⟨rfl, e8⟩; rw [e8]; clear e8)))
                go_upto_region 25 with (fail)
                refine wp_gen (fun V => Aside0 (Inv w V g h nq lo)) ⟨a, q, ql, A, cap, QP, AP, cp, QR, AL, cl, RW.out, IW.out, FW.out, below_drew1 BB.out, E5.out, E6.out, E7.out, E8.out, E9.out⟩ ?_
                clear hS0
                obtain ⟨nq3, hnq3⟩ : ∃ n3, nq = n3 := ⟨_, rfl⟩
                obtain ⟨lo3, hlo3⟩ : ∃ n3, lo = n3 := ⟨_, rfl⟩
                rw [hnq3, hlo3]
                have hlb : 0 ≤ lo3 ∧ lo3 ≤ k + 1 := by omega
                clear hnq3 hlo3
                rintro W3 I3
                obtain ⟨a3, q3, ql3, A3, cap3, QP3, AP3, cp3, QR3, AL3, cl3, f1, f2, f3, f4, f5, f6, f7, f8, f9⟩ := I3.out
                have u0 : W3.cell? ⟨h, 0, none⟩ = some (.slice AL3 nq3 cl3) := by rw [← f9, ← f5, List.length_map]; exact (blk_cell f3.1 0).trans rfl
                have u2 : W3.cell? ⟨h, 2, none⟩ = some (.int .i64 lo3) := (blk_cell f3.1 2).trans rfl
                have F1 := Aside0.mk f1
                have F4 := Aside0.mk f4
                have F9 := Aside0.mk f9
                clear f1 f2 f3 f4 f5 f6 f7 f8 f9
                go_quiet ((first | (go_at_call 9; (have q := fun m => ring_waiting g a3 q3 _ lo3 w (W3.drewN m) (F1.out.drewN m) (pw_below_drewN F4.out m)); rw [F9.out] at q; exact Calls.quiet_of_same (q _)) | (go_at_call 13; exact Calls.quiet_of_same (ring_lost g a3 q3 _ lo3 w (W3.drewN _) (F1.out.drewN _)))))
                go_wp2
                go_roundw
                case rel => exact ⟨k + 1, nq3, lo3, by go_num, by omega, by omega, ⟨I3.out.drewN _⟩⟩
                case measure => simp [intOf]; omega
              go_upto_region 15 with (fail)
              have hS0 : W.drew.cell? (ad1.add k) = some (.slice S0 sl cq) := cell_bel BB.out X1.out
              go_region_held3 (fun U => U.cell? (ad1.add k) = some (.slice S0 sl cq)) (first | exact hS2 | exact hS1 | exact hS0 | go_keep) (first | (go_at_call 7; go_loud (have hc7 : Kd.C (Kd.int .u8) W.drew S0 s.length s := C_below HC.out (below_drew1 BB.out); have hh7 := submit_ok g a q (.slice A QP.length cap) lo w W.drew RW.out (below_drew1 BB.out) S0 cq s hc7 (by rw [HSL.out]; omega) (by omega); rw [HSL.out] at hh7; refine hh7.mono ?_; rintro en w1 ⟨rfl, a1, a2, a3⟩; have M1 := Aside0.mk a1; have M2 := Aside0.mk a2; have M3 := Aside0.mk (upd_of_keep (below_drew1 BB.out) a2 a3); have hS1 : w1.cell? (ad1.add k) = some (.slice S0 sl cq) := cell_bel a2 X1.out; clear a1 a2 a3 hc7 hh7)) | (go_at_call 14; go_loud (have hf14 : IsRef w w1 h ql AL cl QR AP cp lo := FW.out.upd (w := W.drew) M3.out HHG.out (g_not RW.out (by decide)) (g_not RW.out (by decide)) (ap_not RW.out FW.out); have hc7 : Kd.C (Kd.int .u8) w1 S0 s.length s := C_below HC.out M2.out; have hh7 := ref_submit h ql AL cl QR AP cp lo w w1 hf14 S0 cq s hc7 (by rw [HSL.out]; omega) (by rw [HQL.out]; omega); rw [HSL.out] at hh7; refine hh7.mono ?_; rintro en w2 ⟨rfl, A9, c9, v9, a1, a2⟩; have N1 := Aside0.mk a1; have N2 := Aside0.mk a2; have N0 := Aside0.mk hf14; have hS2 : w2.cell? (ad1.add k) = some (.slice S0 sl cq) := a2.cellF hS1 (X1h FW.out X1.out); clear a1 a2 hc7 hh7 hf14)))
              go_upto_region 25 with (fail)
              have hI : Inv w w2 g h (nq + 1) lo := ⟨a, q ++ [s], ql ++ [(s, v9)], A, cap, QP, AP, cp, QR, A9, c9, ring_upd M1.out N2.out (fun e => HHG.out e.symm) (h_not N0.out (by decide)), (IsIn.upd (w := W.drew) IW.out M3.out (g_not RW.out (by decide)) (a_not RW.out IW.out)).upd N2.out (h_not N0.out (by decide)) (a_not2 IW.out FW.out), N1.out, N2.out.to_below2 M2.out (h_ge FW.out), by rw [List.map_append, E5.out]; rfl, E6.out, E7.out, E8.out, by rw [List.length_append, E9.out]; rfl⟩
              refine wp_gen (fun V => Aside0 (Inv w V g h (nq + 1) lo)) ⟨hI⟩ ?_
              clear hI M1 M2 M3 N0 N1 N2 hS0
              (try clear hS1 hS2)
              obtain ⟨nq3, hnq3⟩ : ∃ n3, nq + 1 = n3 := ⟨_, rfl⟩
              obtain ⟨lo3, hlo3⟩ : ∃ n3, lo = n3 := ⟨_, rfl⟩
              rw [hnq3, hlo3]
              have hlb : 0 ≤ lo3 ∧ lo3 ≤ k + 1 := by omega
              clear hnq3 hlo3
              rintro W3 I3
              obtain ⟨a3, q3, ql3, A3, cap3, QP3, AP3, cp3, QR3, AL3, cl3, f1, f2, f3, f4, f5, f6, f7, f8, f9⟩ := I3.out
              have u0 : W3.cell? ⟨h, 0, none⟩ = some (.slice AL3 nq3 cl3) := by rw [← f9, ← f5, List.length_map]; exact (blk_cell f3.1 0).trans rfl
              have u2 : W3.cell? ⟨h, 2, none⟩ = some (.int .i64 lo3) := (blk_cell f3.1 2).trans rfl
              have F1 := Aside0.mk f1
              have F4 := Aside0.mk f4
              have F9 := Aside0.mk f9
              clear f1 f2 f3 f4 f5 f6 f7 f8 f9
              go_quiet ((first | (go_at_call 9; (have q := fun m => ring_waiting g a3 q3 _ lo3 w (W3.drewN m) (F1.out.drewN m) (pw_below_drewN F4.out m)); rw [F9.out] at q; exact Calls.quiet_of_same (q _)) | (go_at_call 13; exact Calls.quiet_of_same (ring_lost g a3 q3 _ lo3 w (W3.drewN _) (F1.out.drewN _)))))
              go_wp2
              go_roundw
              case rel => exact ⟨k + 1, nq3, lo3, by go_num, by omega, by omega, ⟨I3.out.drewN _⟩⟩
              case measure => simp [intOf]; omega
            · subst hm
              by_cases hlong : 16 < sl
              · go_upto_region 15 with (fail)
                have hS0 : W.drew.cell? (ad1.add k) = some (.slice S0 sl cq) := cell_bel BB.out X1.out
                go_region_held3 (fun U => U.cell? (ad1.add k) = some (.slice S0 sl cq)) (first | exact hS2 | exact hS1 | exact hS0 | go_keep) (first | (go_at_call 7; go_loud (refine (submit_long g a q _ lo w W.drew RW.out (below_drew1 BB.out) S0 sl cq hlong (by omega)).mono ?_; rintro en w1 ⟨rfl, e8⟩; rw [e8]; clear e8)) | (go_at_call 14; go_loud (refine (ref_long h W.drew S0 sl cq hlong (by omega)).mono ?_; rintro en w2 ⟨rfl, e8⟩; rw [e8]; clear e8)))
                go_upto_region 25 with (fail)
                refine wp_gen (fun V => Aside0 (Inv w V g h nq lo)) ⟨a, q, ql, A, cap, QP, AP, cp, QR, AL, cl, RW.out, IW.out, FW.out, below_drew1 BB.out, E5.out, E6.out, E7.out, E8.out, E9.out⟩ ?_
                clear hS0
                obtain ⟨nq3, hnq3⟩ : ∃ n3, nq = n3 := ⟨_, rfl⟩
                obtain ⟨lo3, hlo3⟩ : ∃ n3, lo = n3 := ⟨_, rfl⟩
                rw [hnq3, hlo3]
                have hlb : 0 ≤ lo3 ∧ lo3 ≤ k + 1 := by omega
                clear hnq3 hlo3
                rintro W3 I3
                obtain ⟨a3, q3, ql3, A3, cap3, QP3, AP3, cp3, QR3, AL3, cl3, f1, f2, f3, f4, f5, f6, f7, f8, f9⟩ := I3.out
                have u0 : W3.cell? ⟨h, 0, none⟩ = some (.slice AL3 nq3 cl3) := by rw [← f9, ← f5, List.length_map]; exact (blk_cell f3.1 0).trans rfl
                have u2 : W3.cell? ⟨h, 2, none⟩ = some (.int .i64 lo3) := (blk_cell f3.1 2).trans rfl
                have F1 := Aside0.mk f1
                have F4 := Aside0.mk f4
                have F9 := Aside0.mk f9
                clear f1 f2 f3 f4 f5 f6 f7 f8 f9
                go_quiet ((first | (go_at_call 9; (have q := fun m => ring_waiting g a3 q3 _ lo3 w (W3.drewN m) (F1.out.drewN m) (pw_below_drewN F4.out m)); rw [F9.out] at q; exact Calls.quiet_of_same (q _)) | (go_at_call 13; exact Calls.quiet_of_same (ring_lost g a3 q3 _ lo3 w (W3.drewN _) (F1.out.drewN _)))))
                go_wp2
                go_roundw
                case rel => exact ⟨k + 1, nq3, lo3, by go_num, by omega, by omega, ⟨I3.out.drewN _⟩⟩
                case measure => simp [intOf]; omega
              by_cases hful : q.length = 16
              · go_upto_region 15 with (fail)
                have hS0 : W.drew.cell? (ad1.add k) = some (.slice S0 sl cq) := cell_bel BB.out X1.out
                go_region_held3 (fun U => U.cell? (ad1.add k) = some (.slice S0 sl cq)) (first | exact hS2 | exact hS1 | exact hS0 | go_keep) (first | (go_at_call 7; go_loud (refine (submit_full g a q _ lo w W.drew RW.out (below_drew1 BB.out) S0 sl cq (by omega) hful).mono ?_; rintro en w1 ⟨rfl, e8⟩; rw [e8]; clear e8)) | (go_at_call 14; go_loud (refine (ref_full h ql AL cl QR AP cp lo w W.drew FW.out S0 sl cq (by omega) (by rw [HQL.out]; exact hful)).mono ?_; rintro en w2 ⟨rfl, e8⟩; rw [e8]; clear e8)))
                go_upto_region 25 with (fail)
                refine wp_gen (fun V => Aside0 (Inv w V g h nq lo)) ⟨a, q, ql, A, cap, QP, AP, cp, QR, AL, cl, RW.out, IW.out, FW.out, below_drew1 BB.out, E5.out, E6.out, E7.out, E8.out, E9.out⟩ ?_
                clear hS0
                obtain ⟨nq3, hnq3⟩ : ∃ n3, nq = n3 := ⟨_, rfl⟩
                obtain ⟨lo3, hlo3⟩ : ∃ n3, lo = n3 := ⟨_, rfl⟩
                rw [hnq3, hlo3]
                have hlb : 0 ≤ lo3 ∧ lo3 ≤ k + 1 := by omega
                clear hnq3 hlo3
                rintro W3 I3
                obtain ⟨a3, q3, ql3, A3, cap3, QP3, AP3, cp3, QR3, AL3, cl3, f1, f2, f3, f4, f5, f6, f7, f8, f9⟩ := I3.out
                have u0 : W3.cell? ⟨h, 0, none⟩ = some (.slice AL3 nq3 cl3) := by rw [← f9, ← f5, List.length_map]; exact (blk_cell f3.1 0).trans rfl
                have u2 : W3.cell? ⟨h, 2, none⟩ = some (.int .i64 lo3) := (blk_cell f3.1 2).trans rfl
                have F1 := Aside0.mk f1
                have F4 := Aside0.mk f4
                have F9 := Aside0.mk f9
                clear f1 f2 f3 f4 f5 f6 f7 f8 f9
                go_quiet ((first | (go_at_call 9; (have q := fun m => ring_waiting g a3 q3 _ lo3 w (W3.drewN m) (F1.out.drewN m) (pw_below_drewN F4.out m)); rw [F9.out] at q; exact Calls.quiet_of_same (q _)) | (go_at_call 13; exact Calls.quiet_of_same (ring_lost g a3 q3 _ lo3 w (W3.drewN _) (F1.out.drewN _)))))
                go_wp2
                go_roundw
                case rel => exact ⟨k + 1, nq3, lo3, by go_num, by omega, by omega, ⟨I3.out.drewN _⟩⟩
                case measure => simp [intOf]; omega
              go_upto_region 15 with (fail)
              have hS0 : W.drew.cell? (ad1.add k) = some (.slice S0 sl cq) := cell_bel BB.out X1.out
              go_region_held3 (fun U => U.cell? (ad1.add k) = some (.slice S0 sl cq)) (first | exact hS2 | exact hS1 | exact hS0 | go_keep) (first | (go_at_call 7; go_loud (have hc7 : Kd.C (Kd.int .u8) W.drew S0 s.length s := C_below HC.out (below_drew1 BB.out); have hh7 := submit_ok g a q (.slice A QP.length cap) lo w W.drew RW.out (below_drew1 BB.out) S0 cq s hc7 (by rw [HSL.out]; omega) (by omega); rw [HSL.out] at hh7; refine hh7.mono ?_; rintro en w1 ⟨rfl, a1, a2, a3⟩; have M1 := Aside0.mk a1; have M2 := Aside0.mk a2; have M3 := Aside0.mk (upd_of_keep (below_drew1 BB.out) a2 a3); have hS1 : w1.cell? (ad1.add k) = some (.slice S0 sl cq) := cell_bel a2 X1.out; clear a1 a2 a3 hc7 hh7)) | (go_at_call 14; go_loud (have hf14 : IsRef w w1 h ql AL cl QR AP cp lo := FW.out.upd (w := W.drew) M3.out HHG.out (g_not RW.out (by decide)) (g_not RW.out (by decide)) (ap_not RW.out FW.out); have hc7 : Kd.C (Kd.int .u8) w1 S0 s.length s := C_below HC.out M2.out; have hh7 := ref_submit h ql AL cl QR AP cp lo w w1 hf14 S0 cq s hc7 (by rw [HSL.out]; omega) (by rw [HQL.out]; omega); rw [HSL.out] at hh7; refine hh7.mono ?_; rintro en w2 ⟨rfl, A9, c9, v9, a1, a2⟩; have N1 := Aside0.mk a1; have N2 := Aside0.mk a2; have N0 := Aside0.mk hf14; have hS2 : w2.cell? (ad1.add k) = some (.slice S0 sl cq) := a2.cellF hS1 (X1h FW.out X1.out); clear a1 a2 hc7 hh7 hf14)))
              go_upto_region 25 with (fail)
              have hI : Inv w w2 g h (nq + 1) lo := ⟨a, q ++ [s], ql ++ [(s, v9)], A, cap, QP, AP, cp, QR, A9, c9, ring_upd M1.out N2.out (fun e => HHG.out e.symm) (h_not N0.out (by decide)), (IsIn.upd (w := W.drew) IW.out M3.out (g_not RW.out (by decide)) (a_not RW.out IW.out)).upd N2.out (h_not N0.out (by decide)) (a_not2 IW.out FW.out), N1.out, N2.out.to_below2 M2.out (h_ge FW.out), by rw [List.map_append, E5.out]; rfl, E6.out, E7.out, E8.out, by rw [List.length_append, E9.out]; rfl⟩
              refine wp_gen (fun V => Aside0 (Inv w V g h (nq + 1) lo)) ⟨hI⟩ ?_
              clear hI M1 M2 M3 N0 N1 N2 hS0
              (try clear hS1 hS2)
              obtain ⟨nq3, hnq3⟩ : ∃ n3, nq + 1 = n3 := ⟨_, rfl⟩
              obtain ⟨lo3, hlo3⟩ : ∃ n3, lo = n3 := ⟨_, rfl⟩
              rw [hnq3, hlo3]
              have hlb : 0 ≤ lo3 ∧ lo3 ≤ k + 1 := by omega
              clear hnq3 hlo3
              rintro W3 I3
              obtain ⟨a3, q3, ql3, A3, cap3, QP3, AP3, cp3, QR3, AL3, cl3, f1, f2, f3, f4, f5, f6, f7, f8, f9⟩ := I3.out
              have u0 : W3.cell? ⟨h, 0, none⟩ = some (.slice AL3 nq3 cl3) := by rw [← f9, ← f5, List.length_map]; exact (blk_cell f3.1 0).trans rfl
              have u2 : W3.cell? ⟨h, 2, none⟩ = some (.int .i64 lo3) := (blk_cell f3.1 2).trans rfl
              have F1 := Aside0.mk f1
              have F4 := Aside0.mk f4
              have F9 := Aside0.mk f9
              clear f1 f2 f3 f4 f5 f6 f7 f8 f9
              go_quiet ((first | (go_at_call 9; (have q := fun m => ring_waiting g a3 q3 _ lo3 w (W3.drewN m) (F1.out.drewN m) (pw_below_drewN F4.out m)); rw [F9.out] at q; exact Calls.quiet_of_same (q _)) | (go_at_call 13; exact Calls.quiet_of_same (ring_lost g a3 q3 _ lo3 w (W3.drewN _) (F1.out.drewN _)))))
              go_wp2
              go_roundw
              case rel => exact ⟨k + 1, nq3, lo3, by go_num, by omega, by omega, ⟨I3.out.drewN _⟩⟩
              case measure => simp [intOf]; omega
            · subst hm
              by_cases hlong : 16 < sl
              · go_upto_region 15 with (fail)
                have hS0 : W.drew.cell? (ad1.add k) = some (.slice S0 sl cq) := cell_bel BB.out X1.out
                go_region_held3 (fun U => U.cell? (ad1.add k) = some (.slice S0 sl cq)) (first | exact hS2 | exact hS1 | exact hS0 | go_keep) (first | (go_at_call 7; go_loud (refine (submit_long g a q _ lo w W.drew RW.out (below_drew1 BB.out) S0 sl cq hlong (by omega)).mono ?_; rintro en w1 ⟨rfl, e8⟩; rw [e8]; clear e8)) | (go_at_call 14; go_loud (refine (ref_long h W.drew S0 sl cq hlong (by omega)).mono ?_; rintro en w2 ⟨rfl, e8⟩; rw [e8]; clear e8)))
                go_upto_region 25 with (fail)
                refine wp_gen (fun V => Aside0 (Inv w V g h nq lo)) ⟨a, q, ql, A, cap, QP, AP, cp, QR, AL, cl, RW.out, IW.out, FW.out, below_drew1 BB.out, E5.out, E6.out, E7.out, E8.out, E9.out⟩ ?_
                clear hS0
                obtain ⟨nq3, hnq3⟩ : ∃ n3, nq = n3 := ⟨_, rfl⟩
                obtain ⟨lo3, hlo3⟩ : ∃ n3, lo = n3 := ⟨_, rfl⟩
                rw [hnq3, hlo3]
                have hlb : 0 ≤ lo3 ∧ lo3 ≤ k + 1 := by omega
                clear hnq3 hlo3
                rintro W3 I3
                obtain ⟨a3, q3, ql3, A3, cap3, QP3, AP3, cp3, QR3, AL3, cl3, f1, f2, f3, f4, f5, f6, f7, f8, f9⟩ := I3.out
                have u0 : W3.cell? ⟨h, 0, none⟩ = some (.slice AL3 nq3 cl3) := by rw [← f9, ← f5, List.length_map]; exact (blk_cell f3.1 0).trans rfl
                have u2 : W3.cell? ⟨h, 2, none⟩ = some (.int .i64 lo3) := (blk_cell f3.1 2).trans rfl
                have F1 := Aside0.mk f1
                have F4 := Aside0.mk f4
                have F9 := Aside0.mk f9
                clear f1 f2 f3 f4 f5 f6 f7 f8 f9
                go_quiet ((first | (go_at_call 9; (have q := fun m => ring_waiting g a3 q3 _ lo3 w (W3.drewN m) (F1.out.drewN m) (pw_below_drewN F4.out m)); rw [F9.out] at q; exact Calls.quiet_of_same (q _)) | (go_at_call 13; exact Calls.quiet_of_same (ring_lost g a3 q3 _ lo3 w (W3.drewN _) (F1.out.drewN _)))))
                go_wp2
                go_roundw
                case rel => exact ⟨k + 1, nq3, lo3, by go_num, by omega, by omega, ⟨I3.out.drewN _⟩⟩
                case measure => simp [intOf]; omega
              by_cases hful : q.length = 16
              · go_upto_region 15 with (fail)
                have hS0 : W.drew.cell? (ad1.add k) = some (.slice S0 sl cq) := cell_bel BB.out X1.out
                go_region_held3 (fun U => U.cell? (ad1.add k) = some (.slice S0 sl cq)) (first | exact hS2 | exact hS1 | exact hS0 | go_keep) (first | (go_at_call 7; go_loud (refine (submit_full g a q _ lo w W.drew RW.out (below_drew1 BB.out) S0 sl cq (by omega) hful).mono ?_; rintro en w1 ⟨rfl, e8⟩; rw [e8]; clear e8)) | (go_at_call 14; go_loud (refine (ref_full h ql AL cl QR AP cp lo w W.drew FW.out S0 sl cq (by omega) (by rw [HQL.out]; exact hful)).mono ?_; rintro en w2 ⟨rfl, e8⟩; rw [e8]; clear e8)))
                go_upto_region 25 with (fail)
                refine wp_gen (fun V => Aside0 (Inv w V g h nq lo)) ⟨a, q, ql, A, cap, QP, AP, cp, QR, AL, cl, RW.out, IW.out, FW.out, below_drew1 BB.out, E5.out, E6.out, E7.out, E8.out, E9.out⟩ ?_
                clear hS0
                obtain ⟨nq3, hnq3⟩ : ∃ n3, nq = n3 := ⟨_, rfl⟩
                obtain ⟨lo3, hlo3⟩ : ∃ n3, lo = n3 := ⟨_, rfl⟩
                rw [hnq3, hlo3]
                have hlb : 0 ≤ lo3 ∧ lo3 ≤ k + 1 := by omega
                clear hnq3 hlo3
                rintro W3 I3
                obtain ⟨a3, q3, ql3, A3, cap3, QP3, AP3, cp3, QR3, AL3, cl3, f1, f2, f3, f4, f5, f6, f7, f8, f9⟩ := I3.out
                have u0 : W3.cell? ⟨h, 0, none⟩ = some (.slice AL3 nq3 cl3) := by rw [← f9, ← f5, List.length_map]; exact (blk_cell f3.1 0).trans rfl
                have u2 : W3.cell? ⟨h, 2, none⟩ = some (.int .i64 lo3) := (blk_cell f3.1 2).trans rfl
                have F1 := Aside0.mk f1
                have F4 := Aside0.mk f4
                have F9 := Aside0.mk f9
                clear f1 f2 f3 f4 f5 f6 f7 f8 f9
                go_quiet ((first | (go_at_call 9; (have q := fun m => ring_waiting g a3 q3 _ lo3 w (W3.drewN m) (F1.out.drewN m) (pw_below_drewN F4.out m)); rw [F9.out] at q; exact Calls.quiet_of_same (q _)) | (go_at_call 13; exact Calls.quiet_of_same (ring_lost g a3 q3 _ lo3 w (W3.drewN _) (F1.out.drewN _)))))
                go_wp2
                go_roundw
                case rel => exact ⟨k + 1, nq3, lo3, by go_num, by omega, by omega, ⟨I3.out.drewN _⟩⟩
                case measure => simp [intOf]; omega
              go_upto_region 15 with (fail)
              have hS0 : W.drew.cell? (ad1.add k) = some (.slice S0 sl cq) := cell_bel BB.out X1.out
              go_region_held3 (fun U => U.cell? (ad1.add k) = some (.slice S0 sl cq)) (first | exact hS2 | exact hS1 | exact hS0 | go_keep) (first | (go_at_call 7; go_loud (have hc7 : Kd.C (Kd.int .u8) W.drew S0 s.length s := C_below HC.out (below_drew1 BB.out); have hh7 := submit_ok g a q (.slice A QP.length cap) lo w W.drew RW.out (below_drew1 BB.out) S0 cq s hc7 (by rw [HSL.out]; omega) (by omega); rw [HSL.out] at hh7; refine hh7.mono ?_; rintro en w1 ⟨rfl, a1, a2, a3⟩; have M1 := Aside0.mk a1; have M2 := Aside0.mk a2; have M3 := Aside0.mk (upd_of_keep (below_drew1 BB.out) a2 a3); have hS1 : w1.cell? (ad1.add k) = some (.slice S0 sl cq) := cell_bel a2 X1.out; clear a1 a2 a3 hc7 hh7)) | (go_at_call 14; go_loud (have hf14 : IsRef w w1 h ql AL cl QR AP cp lo := FW.out.upd (w := W.drew) M3.out HHG.out (g_not RW.out (by decide)) (g_not RW.out (by decide)) (ap_not RW.out FW.out); have hc7 : Kd.C (Kd.int .u8) w1 S0 s.length s := C_below HC.out M2.out; have hh7 := ref_submit h ql AL cl QR AP cp lo w w1 hf14 S0 cq s hc7 (by rw [HSL.out]; omega) (by rw [HQL.out]; omega); rw [HSL.out] at hh7; refine hh7.mono ?_; rintro en w2 ⟨rfl, A9, c9, v9, a1, a2⟩; have N1 := Aside0.mk a1; have N2 := Aside0.mk a2; have N0 := Aside0.mk hf14; have hS2 : w2.cell? (ad1.add k) = some (.slice S0 sl cq) := a2.cellF hS1 (X1h FW.out X1.out); clear a1 a2 hc7 hh7 hf14)))
              go_upto_region 25 with (fail)
              have hI : Inv w w2 g h (nq + 1) lo := ⟨a, q ++ [s], ql ++ [(s, v9)], A, cap, QP, AP, cp, QR, A9, c9, ring_upd M1.out N2.out (fun e => HHG.out e.symm) (h_not N0.out (by decide)), (IsIn.upd (w := W.drew) IW.out M3.out (g_not RW.out (by decide)) (a_not RW.out IW.out)).upd N2.out (h_not N0.out (by decide)) (a_not2 IW.out FW.out), N1.out, N2.out.to_below2 M2.out (h_ge FW.out), by rw [List.map_append, E5.out]; rfl, E6.out, E7.out, E8.out, by rw [List.length_append, E9.out]; rfl⟩
              refine wp_gen (fun V => Aside0 (Inv w V g h (nq + 1) lo)) ⟨hI⟩ ?_
              clear hI M1 M2 M3 N0 N1 N2 hS0
              (try clear hS1 hS2)
              obtain ⟨nq3, hnq3⟩ : ∃ n3, nq + 1 = n3 := ⟨_, rfl⟩
              obtain ⟨lo3, hlo3⟩ : ∃ n3, lo = n3 := ⟨_, rfl⟩
              rw [hnq3, hlo3]
              have hlb : 0 ≤ lo3 ∧ lo3 ≤ k + 1 := by omega
              clear hnq3 hlo3
              rintro W3 I3
              obtain ⟨a3, q3, ql3, A3, cap3, QP3, AP3, cp3, QR3, AL3, cl3, f1, f2, f3, f4, f5, f6, f7, f8, f9⟩ := I3.out
              have u0 : W3.cell? ⟨h, 0, none⟩ = some (.slice AL3 nq3 cl3) := by rw [← f9, ← f5, List.length_map]; exact (blk_cell f3.1 0).trans rfl
              have u2 : W3.cell? ⟨h, 2, none⟩ = some (.int .i64 lo3) := (blk_cell f3.1 2).trans rfl
              have F1 := Aside0.mk f1
              have F4 := Aside0.mk f4
              have F9 := Aside0.mk f9
              clear f1 f2 f3 f4 f5 f6 f7 f8 f9
              go_quiet ((first | (go_at_call 9; (have q := fun m => ring_waiting g a3 q3 _ lo3 w (W3.drewN m) (F1.out.drewN m) (pw_below_drewN F4.out m)); rw [F9.out] at q; exact Calls.quiet_of_same (q _)) | (go_at_call 13; exact Calls.quiet_of_same (ring_lost g a3 q3 _ lo3 w (W3.drewN _) (F1.out.drewN _)))))
              go_wp2
              go_roundw
              case rel => exact ⟨k + 1, nq3, lo3, by go_num, by omega, by omega, ⟨I3.out.drewN _⟩⟩
              case measure => simp [intOf]; omega
            · subst hm
              rcases ql with _ | ⟨⟨xs, pv⟩, ql⟩
              · obtain rfl : q = [] := (show [] = q from E5.out).symm
                have q1 : ∀ U, (convert 29 9 (.slice none 0 0)).run Try.prog U = .ok (.string (strOfNums [])) U := fun U => Kd.C_string Try.underlying29 Try.underlying5 Try.underlying9 (C_none U)
                have heq : ((strOfNums []).toList == (strOfNums []).toList) = true := by simp
                go_upto_region 25 with (first | (go_at_call 8; go_loud (refine (next_empty g a _ lo w W RW.out BB.out).mono ?_; rintro en w1 ⟨rfl, e8⟩; rw [e8]; clear e8)) | (go_at_call 15; go_loud (refine (ref_next_none h AL cl QR AP cp lo w W FW.out).mono ?_; rintro en w2 ⟨rfl, e8⟩; rw [e8]; clear e8)))
                refine wp_gen (fun V => Aside0 (Inv w V g h (nq) (lo))) ⟨⟨a, [], [], A, cap, QP, AP, cp, QR, AL, cl, RW.out, IW.out, FW.out, BB.out, E5.out, E6.out, E7.out, E8.out, E9.out⟩⟩ ?_
                obtain ⟨nq3, hnq3⟩ : ∃ n3, (nq) = n3 := ⟨_, rfl⟩
                obtain ⟨lo3, hlo3⟩ : ∃ n3, (lo) = n3 := ⟨_, rfl⟩
                rw [hnq3, hlo3]
                have hlb : 0 ≤ lo3 ∧ lo3 ≤ k + 1 := by omega
                clear hnq3 hlo3
                rintro W3 I3
                obtain ⟨a3, q3, ql3, A3, cap3, QP3, AP3, cp3, QR3, AL3, cl3, f1, f2, f3, f4, f5, f6, f7, f8, f9⟩ := I3.out
                have u0 : W3.cell? ⟨h, 0, none⟩ = some (.slice AL3 nq3 cl3) := by rw [← f9, ← f5, List.length_map]; exact (blk_cell f3.1 0).trans rfl
                have u2 : W3.cell? ⟨h, 2, none⟩ = some (.int .i64 lo3) := (blk_cell f3.1 2).trans rfl
                have F1 := Aside0.mk f1
                have F4 := Aside0.mk f4
                have F9 := Aside0.mk f9
                clear f1 f2 f3 f4 f5 f6 f7 f8 f9
                go_quiet ((first | (go_at_call 9; (have q := fun m => ring_waiting g a3 q3 _ lo3 w (W3.drewN m) (F1.out.drewN m) (pw_below_drewN F4.out m)); rw [F9.out] at q; exact Calls.quiet_of_same (q _)) | (go_at_call 13; exact Calls.quiet_of_same (ring_lost g a3 q3 _ lo3 w (W3.drewN _) (F1.out.drewN _)))))
                go_wp2
                go_roundw
                case rel => exact ⟨k + 1, nq3, lo3, by go_num, by omega, by omega, ⟨I3.out.drewN _⟩⟩
                case measure => simp [intOf]; omega
              · obtain rfl : q = xs :: ql.map (·.1) := (show xs :: ql.map (·.1) = q from E5.out).symm
                obtain ⟨Av, cv, ev, hv⟩ := FW.out.2.2.2.1 (xs, pv) (List.mem_cons_self ..)
                dsimp only at ev
                have EV := Aside0.mk ev
                clear ev hv
                go_upto_region 20 with (first | (go_at_call 8; go_loud (refine (next_some g a xs (ql.map (·.1)) _ lo w W RW.out BB.out).mono ?_; rintro en w1 ⟨A1, c1, rfl, a0, a1, a2, a3⟩; have M0 := Aside0.mk a0; have M1 := Aside0.mk a1; have M2 := Aside0.mk a2; have M3 := Aside0.mk (upd_of_keep BB.out a2 a3); clear a0 a1 a2 a3)) | (go_at_call 15; go_loud (have hf : IsRef w w1 h ((xs, pv) :: ql) AL cl QR AP cp lo := FW.out.upd M3.out HHG.out (g_not RW.out (by decide)) (g_not RW.out (by decide)) (ap_not RW.out FW.out); have N0 := Aside0.mk hf; have hh := ref_next h (xs, pv) ql AL cl QR AP cp lo w w1 hf; dsimp only at hh; rw [EV.out] at hh; refine hh.mono ?_; rintro en w2 ⟨rfl, a0, ⟨A9, c9, a1⟩, a2⟩; have P0 := Aside0.mk a0; have P1 := Aside0.mk a1; have P2 := Aside0.mk a2; clear hf hh a0 a1 a2)))
                have q1 : (convert 29 9 (.slice A1 xs.length c1)).run Try.prog w2 = .ok (.string (strOfNums xs)) w2 := Kd.C_string Try.underlying29 Try.underlying5 Try.underlying9 (row_C ((own_row M0.out).upd P2.out (fun j hj e => (own_row M0.out).off N0.out.1 (by decide) (by rw [hj, e]))))
                have q2 : (convert 29 9 (.slice Av xs.length cv)).run Try.prog w2 = .ok (.string (strOfNums xs)) w2 := by
                  obtain ⟨B1, d1, e1, hb1⟩ := P0.out
                  dsimp only at e1 hb1
                  (try rw [EV.out] at e1)
                  cases e1
                  exact Kd.C_string Try.underlying29 Try.underlying5 Try.underlying9 (row_C hb1)
                have heq : ((strOfNums xs).toList == (strOfNums xs).toList) = true := by simp
                go_upto_region 25 with (fail)
                have hnq : (ql.map (·.1)).length = nq - 1 := by have := E9.out; rw [List.length_cons] at this; omega
                refine wp_gen (fun V => Aside0 (Inv w V g h (nq - 1) (lo))) ⟨⟨(a + 1) % 16, ql.map (·.1), ql, A, cap, QP, AP, cp, QR, A9, c9, ring_upd M1.out P2.out (fun e => HHG.out e.symm) (h_not N0.out (by decide)), (IsIn.upd IW.out M3.out (g_not RW.out (by decide)) (a_not RW.out IW.out)).upd P2.out (h_not N0.out (by decide)) (a_not2 IW.out FW.out), P1.out, P2.out.to_below2 M2.out (h_ge FW.out), rfl, E6.out, E7.out, E8.out, hnq⟩⟩ ?_
                obtain ⟨nq3, hnq3⟩ : ∃ n3, (nq - 1) = n3 := ⟨_, rfl⟩
                obtain ⟨lo3, hlo3⟩ : ∃ n3, (lo) = n3 := ⟨_, rfl⟩
                rw [hnq3, hlo3]
                have hlb : 0 ≤ lo3 ∧ lo3 ≤ k + 1 := by omega
                clear hnq3 hlo3
                clear q1 q2
                rintro W3 I3
                obtain ⟨a3, q3, ql3, A3, cap3, QP3, AP3, cp3, QR3, AL3, cl3, f1, f2, f3, f4, f5, f6, f7, f8, f9⟩ := I3.out
                have u0 : W3.cell? ⟨h, 0, none⟩ = some (.slice AL3 nq3 cl3) := by rw [← f9, ← f5, List.length_map]; exact (blk_cell f3.1 0).trans rfl
                have u2 : W3.cell? ⟨h, 2, none⟩ = some (.int .i64 lo3) := (blk_cell f3.1 2).trans rfl
                have F1 := Aside0.mk f1
                have F4 := Aside0.mk f4
                have F9 := Aside0.mk f9
                clear f1 f2 f3 f4 f5 f6 f7 f8 f9
                go_quiet ((first | (go_at_call 9; (have q := fun m => ring_waiting g a3 q3 _ lo3 w (W3.drewN m) (F1.out.drewN m) (pw_below_drewN F4.out m)); rw [F9.out] at q; exact Calls.quiet_of_same (q _)) | (go_at_call 13; exact Calls.quiet_of_same (ring_lost g a3 q3 _ lo3 w (W3.drewN _) (F1.out.drewN _)))))
                go_wp2
                go_roundw
                case rel => exact ⟨k + 1, nq3, lo3, by go_num, by omega, by omega, ⟨I3.out.drewN _⟩⟩
                case measure => simp [intOf]; omega
            · subst hm
              go_upto_region 25 with (first | (go_at_call 12; go_loud (have hh := poll_ok g a q A QP.length cap lo w W RW.out; rw [HNP.out] at hh; refine hh.mono ?_; rintro en w1 ⟨rfl, a1, a2⟩; have M1 := Aside0.mk a1; have M2 := Aside0.mk a2; clear hh a1 a2)) | (go_at_call 17; go_loud (have hf : IsRef w w1 h ql AL cl QR AP cp lo := FW.out.upd M2.out HHG.out (g_not RW.out (by decide)) (g_not RW.out (by decide)) (ap_not RW.out FW.out); have N0 := Aside0.mk hf; have hh := ref_poll h ql AL cl QR AP cp lo w w1 hf; rw [HNR.out] at hh; refine hh.mono ?_; rintro en w2 ⟨rfl, a1, a2⟩; have N1 := Aside0.mk a1; have N2 := Aside0.mk a2; clear hf hh a1 a2)) | (go_at_call 16; go_loud (have hi := (IsIn.upd IW.out M2.out (g_not RW.out (by decide)) (a_not RW.out IW.out)).upd N2.out (h_not N0.out (by decide)) (a_not2 IW.out FW.out); have hp := N0.out.2.2.2.2.upd N2.out (fun j hj e => N0.out.2.2.2.2.1.off N0.out.1 (by decide) (by rw [hj, e])); have hb2 : Below w.heap.size w w2 := N2.out.to_below2 (M2.out.to_below2 BB.out (g_ge RW.out)) (h_ge FW.out); have hi1 := hi.1; have hp1 := hp.1; rw [HNP.out] at hi1; rw [HNR.out] at hp1; refine (pays_yes A AP np cap cp QP QR w2 w.heap.size w.heap.size hi1 hp1 HNP.out HNR.out E6.out (has_own hi.2) (has_arg hp.2 hb2) (by omega)).mono ?_; rintro en w3 ⟨rfl, a1⟩; have T1 := Aside0.mk a1; have T2 := Aside0.mk hb2; clear hi hp hb2 hi1 hp1 a1)))
              refine wp_gen (fun V => Aside0 (Inv w V g h (nq) (lo))) ⟨⟨a, q, ql, none, 0, [], none, 0, [], AL, cl, ring_upd (S := fun _ => False) (ring_upd M1.out N2.out (fun e => HHG.out e.symm) (h_not N0.out (by decide))) (Upd.of_below T1.out) (fun h => h) (fun _ _ _ h => h.elim), ⟨RowAt.nil _ _ _ _, (fun t ht => by cases ht)⟩, N1.out.below T1.out, below_step T2.out T1.out, E5.out, rfl, by simp, (fun j hj => by cases hj), E9.out⟩⟩ ?_
              obtain ⟨nq3, hnq3⟩ : ∃ n3, (nq) = n3 := ⟨_, rfl⟩
              obtain ⟨lo3, hlo3⟩ : ∃ n3, (lo) = n3 := ⟨_, rfl⟩
              rw [hnq3, hlo3]
              have hlb : 0 ≤ lo3 ∧ lo3 ≤ k + 1 := by omega
              clear hnq3 hlo3
              rintro W3 I3
              obtain ⟨a3, q3, ql3, A3, cap3, QP3, AP3, cp3, QR3, AL3, cl3, f1, f2, f3, f4, f5, f6, f7, f8, f9⟩ := I3.out
              have u0 : W3.cell? ⟨h, 0, none⟩ = some (.slice AL3 nq3 cl3) := by rw [← f9, ← f5, List.length_map]; exact (blk_cell f3.1 0).trans rfl
              have u2 : W3.cell? ⟨h, 2, none⟩ = some (.int .i64 lo3) := (blk_cell f3.1 2).trans rfl
              have F1 := Aside0.mk f1
              have F4 := Aside0.mk f4
              have F9 := Aside0.mk f9
              clear f1 f2 f3 f4 f5 f6 f7 f8 f9
              go_quiet ((first | (go_at_call 9; (have q := fun m => ring_waiting g a3 q3 _ lo3 w (W3.drewN m) (F1.out.drewN m) (pw_below_drewN F4.out m)); rw [F9.out] at q; exact Calls.quiet_of_same (q _)) | (go_at_call 13; exact Calls.quiet_of_same (ring_lost g a3 q3 _ lo3 w (W3.drewN _) (F1.out.drewN _)))))
              go_wp2
              go_roundw
              case rel => exact ⟨k + 1, nq3, lo3, by go_num, by omega, by omega, ⟨I3.out.drewN _⟩⟩
              case measure => simp [intOf]; omega
            · subst hm
              by_cases hlong : 16 < sl
              · go_upto_region 10 with (fail)
                have hS0 : W.drew.cell? ⟨bx, 0, none⟩ = some (.int .i64 fr) ∧ W.drew.cell? ⟨bx, 1, none⟩ = some (.int .i64 k) ∧ W.drew.cell? ⟨bx, 2, none⟩ = some (.slice S0 sl cq) := ⟨(blk_cell XW.out 0).trans rfl, (blk_cell XW.out 1).trans rfl, (blk_cell XW.out 2).trans rfl⟩
                go_region_held3 (fun U => U.cell? ⟨bx, 0, none⟩ = some (.int .i64 fr) ∧ U.cell? ⟨bx, 1, none⟩ = some (.int .i64 k) ∧ U.cell? ⟨bx, 2, none⟩ = some (.slice S0 sl cq)) (first | exact hS2 | exact hS1 | exact hS0 | go_keep) (first | (go_at_call 11; go_loud (refine (release_long g a q _ lo w W.drew RW.out fr k S0 sl cq hlong (by omega)).mono ?_; rintro en w1 ⟨rfl, a1⟩; have M1 := Aside0.mk a1; have hx1 := blk_below (w := W.drew) XW.out a1; have XX := Aside0.mk hx1; have hS1 : w1.cell? ⟨bx, 0, none⟩ = some (.int .i64 fr) ∧ w1.cell? ⟨bx, 1, none⟩ = some (.int .i64 k) ∧ w1.cell? ⟨bx, 2, none⟩ = some (.slice S0 sl cq) := ⟨(blk_cell hx1 0).trans rfl, (blk_cell hx1 1).trans rfl, (blk_cell hx1 2).trans rfl⟩; clear hx1 a1)) | (go_at_call 18; go_loud (refine (rref_long h w1 fr k S0 sl cq hlong (by omega)).mono ?_; rintro en w2 ⟨rfl, a1⟩; have M2 := Aside0.mk a1; have hx1 := blk_below XX.out a1; have hS2 : w2.cell? ⟨bx, 0, none⟩ = some (.int .i64 fr) ∧ w2.cell? ⟨bx, 1, none⟩ = some (.int .i64 k) ∧ w2.cell? ⟨bx, 2, none⟩ = some (.slice S0 sl cq) := ⟨(blk_cell hx1 0).trans rfl, (blk_cell hx1 1).trans rfl, (blk_cell hx1 2).trans rfl⟩; clear hx1 a1)))
                go_upto_region 25 with (fail)
                have hbb : Below W.heap.size W w2 := below_step (w := W) (W := w1) (below_step (w := W) (W := W.drew) (below_drew1 (Below.refl W.heap.size W)) M1.out) M2.out
                refine wp_gen (fun V => Aside0 (Inv w V g h (nq) (lo))) ⟨⟨a, q, ql, A, cap, QP, AP, cp, QR, AL, cl, ring_upd (S := fun _ => False) RW.out (Upd.of_below hbb) (fun h => h) (fun _ _ _ h => h.elim), IW.out.upd (S := fun _ => False) (Upd.of_below hbb) (fun _ _ _ h => h.elim) (fun _ _ h => h), FW.out.below hbb, below_step BB.out hbb, E5.out, E6.out, E7.out, E8.out, E9.out⟩⟩ ?_
                obtain ⟨nq3, hnq3⟩ : ∃ n3, (nq) = n3 := ⟨_, rfl⟩
                obtain ⟨lo3, hlo3⟩ : ∃ n3, (lo) = n3 := ⟨_, rfl⟩
                rw [hnq3, hlo3]
                have hlb : 0 ≤ lo3 ∧ lo3 ≤ k + 1 := by omega
                clear hnq3 hlo3
                clear hS0 hbb
                (try clear hS1 hS2)
                rintro W3 I3
                obtain ⟨a3, q3, ql3, A3, cap3, QP3, AP3, cp3, QR3, AL3, cl3, f1, f2, f3, f4, f5, f6, f7, f8, f9⟩ := I3.out
                have u0 : W3.cell? ⟨h, 0, none⟩ = some (.slice AL3 nq3 cl3) := by rw [← f9, ← f5, List.length_map]; exact (blk_cell f3.1 0).trans rfl
                have u2 : W3.cell? ⟨h, 2, none⟩ = some (.int .i64 lo3) := (blk_cell f3.1 2).trans rfl
                have F1 := Aside0.mk f1
                have F4 := Aside0.mk f4
                have F9 := Aside0.mk f9
                clear f1 f2 f3 f4 f5 f6 f7 f8 f9
                go_quiet ((first | (go_at_call 9; (have q := fun m => ring_waiting g a3 q3 _ lo3 w (W3.drewN m) (F1.out.drewN m) (pw_below_drewN F4.out m)); rw [F9.out] at q; exact Calls.quiet_of_same (q _)) | (go_at_call 13; exact Calls.quiet_of_same (ring_lost g a3 q3 _ lo3 w (W3.drewN _) (F1.out.drewN _)))))
                go_wp2
                go_roundw
                case rel => exact ⟨k + 1, nq3, lo3, by go_num, by omega, by omega, ⟨I3.out.drewN _⟩⟩
                case measure => simp [intOf]; omega
              · go_upto_region 10 with (fail)
                have hS0 : W.drew.cell? ⟨bx, 0, none⟩ = some (.int .i64 fr) ∧ W.drew.cell? ⟨bx, 1, none⟩ = some (.int .i64 k) ∧ W.drew.cell? ⟨bx, 2, none⟩ = some (.slice S0 sl cq) := ⟨(blk_cell XW.out 0).trans rfl, (blk_cell XW.out 1).trans rfl, (blk_cell XW.out 2).trans rfl⟩
                go_region_held3 (fun U => U.cell? ⟨bx, 0, none⟩ = some (.int .i64 fr) ∧ U.cell? ⟨bx, 1, none⟩ = some (.int .i64 k) ∧ U.cell? ⟨bx, 2, none⟩ = some (.slice S0 sl cq)) (first | exact hS2 | exact hS1 | exact hS0 | go_keep) (first | (go_at_call 11; go_loud (have hh := release_ok g a q QP A cap lo w W.drew RW.out IW.out E7.out (by omega) fr k S0 cq s (by rw [HSL.out]; omega) (C_below HC.out (below_drew1 BB.out)); rw [HSL.out] at hh; refine hh.mono ?_; rintro en w1 ⟨rfl, A9, c9, v9, a1, a2, a3, a4⟩; have M1 := Aside0.mk a1; have M2 := Aside0.mk a2; have M3 := Aside0.mk a3; have hx1 := Upd.far (a := W.drew) a3 XW.out (fun e => by rcases e with e | e; exact (ring_blk RW.out).elim (fun cs hcs => by have h1 := XW.out; rw [e, hcs.1] at h1; cases h1); have := HAB.out _ e; omega); have XX := Aside0.mk hx1; have hS1 : w1.cell? ⟨bx, 0, none⟩ = some (.int .i64 fr) ∧ w1.cell? ⟨bx, 1, none⟩ = some (.int .i64 k) ∧ w1.cell? ⟨bx, 2, none⟩ = some (.slice S0 sl cq) := ⟨(blk_cell hx1 0).trans rfl, (blk_cell hx1 1).trans rfl, (blk_cell hx1 2).trans rfl⟩; clear hh hx1 a1 a2 a3 a4)) | (go_at_call 18; go_loud (have hf : IsRef w w1 h ql AL cl QR AP cp lo := IsRef.upd (w := W.drew) FW.out M3.out (fun e => by rcases e with e | e; exact HHG.out e; exact a_not2 IW.out FW.out _ e rfl) (fun j cs fr e => by rcases e with e | e; exact g_not RW.out (by decide) j cs fr e; exact fun h2 => IW.out.1.off h2 (by decide) e) (fun j cs fr e => by rcases e with e | e; exact g_not RW.out (by decide) j cs fr e; exact fun h2 => IW.out.1.off h2 (by decide) e) (fun j hj e => by rcases e with e | e; exact ap_not RW.out FW.out j hj e; exact E8.out j e hj); have N0 := Aside0.mk hf; have hh := ref_release h ql AL cl QR AP cp lo w w1 hf (by rw [HNR.out]; omega) (by omega) fr k S0 cq s (by rw [HSL.out]; omega) HC.out; rw [HSL.out] at hh; refine hh.mono ?_; rintro en w2 ⟨rfl, A8, c8, v8, a1, a2, a3⟩; have N1 := Aside0.mk a1; have N2 := Aside0.mk a2; have N3 := Aside0.mk a3; have hx1 := a2.far XX.out (fun e => by have h1 := XX.out; rw [e, hf.1] at h1; cases h1); have hS2 : w2.cell? ⟨bx, 0, none⟩ = some (.int .i64 fr) ∧ w2.cell? ⟨bx, 1, none⟩ = some (.int .i64 k) ∧ w2.cell? ⟨bx, 2, none⟩ = some (.slice S0 sl cq) := ⟨(blk_cell hx1 0).trans rfl, (blk_cell hx1 1).trans rfl, (blk_cell hx1 2).trans rfl⟩; clear hh hf hx1 a1 a2 a3)))
                go_upto_region 25 with (fail)
                have hlen1 : QP.length = QR.length := by rw [HNP.out, HNR.out]
                have n1 := N1.out
                rw [HNR.out] at n1
                have m1 := M1.out
                rw [HNP.out] at m1
                have hb1 : Below w.heap.size w w1 := M3.out.to_below2 (below_drew1 BB.out) (fun j e => by rcases e with e | e; exact g_ge RW.out j e; exact (IW.out.1.lt j e).1)
                refine wp_gen (fun V => Aside0 (Inv w V g h (nq) (if 64 < np + 1 then lo + 1 else lo))) ⟨⟨a, q, ql, A9, c9, heldQ (QP ++ [((fr, (k : Int), s), v9)]), A8, c8, heldQ (QR ++ [((fr, (k : Int), s), v8)]), AL, cl, ring_upd m1 N2.out (fun e => HHG.out e.symm) (h_not N0.out (by decide)), IsIn.upd M2.out N2.out (h_not N0.out (by decide)) (a_not2 M2.out N0.out), n1, N2.out.to_below2 hb1 (h_ge FW.out), E5.out, held_map E6.out hlen1 _ _ _, held_len (by rw [HNP.out]; omega) _, fun j hj hj2 => by obtain ⟨j8, h8, h9⟩ := N3.out; rw [h8] at hj2; cases hj2; have := (M2.out.1.lt _ hj).2; omega, E9.out⟩⟩ ?_
                obtain ⟨nq3, hnq3⟩ : ∃ n3, (nq) = n3 := ⟨_, rfl⟩
                obtain ⟨lo3, hlo3⟩ : ∃ n3, (if 64 < np + 1 then lo + 1 else lo) = n3 := ⟨_, rfl⟩
                rw [hnq3, hlo3]
                have hlb : 0 ≤ lo3 ∧ lo3 ≤ k + 1 := by rw [← hlo3]; split <;> omega
                clear hnq3 hlo3
                clear hS0 hlen1 n1 m1 hb1
                (try clear hS1 hS2)
                rintro W3 I3
                obtain ⟨a3, q3, ql3, A3, cap3, QP3, AP3, cp3, QR3, AL3, cl3, f1, f2, f3, f4, f5, f6, f7, f8, f9⟩ := I3.out
                have u0 : W3.cell? ⟨h, 0, none⟩ = some (.slice AL3 nq3 cl3) := by rw [← f9, ← f5, List.length_map]; exact (blk_cell f3.1 0).trans rfl
                have u2 : W3.cell? ⟨h, 2, none⟩ = some (.int .i64 lo3) := (blk_cell f3.1 2).trans rfl
                have F1 := Aside0.mk f1
                have F4 := Aside0.mk f4
                have F9 := Aside0.mk f9
                clear f1 f2 f3 f4 f5 f6 f7 f8 f9
                go_quiet ((first | (go_at_call 9; (have q := fun m => ring_waiting g a3 q3 _ lo3 w (W3.drewN m) (F1.out.drewN m) (pw_below_drewN F4.out m)); rw [F9.out] at q; exact Calls.quiet_of_same (q _)) | (go_at_call 13; exact Calls.quiet_of_same (ring_lost g a3 q3 _ lo3 w (W3.drewN _) (F1.out.drewN _)))))
                go_wp2
                go_roundw
                case rel => exact ⟨k + 1, nq3, lo3, by go_num, by omega, by omega, ⟨I3.out.drewN _⟩⟩
                case measure => simp [intOf]; omega
            · subst hm
              by_cases hlong : 16 < sl
              · go_upto_region 10 with (fail)
                have hS0 : W.drew.cell? ⟨bx, 0, none⟩ = some (.int .i64 fr) ∧ W.drew.cell? ⟨bx, 1, none⟩ = some (.int .i64 k) ∧ W.drew.cell? ⟨bx, 2, none⟩ = some (.slice S0 sl cq) := ⟨(blk_cell XW.out 0).trans rfl, (blk_cell XW.out 1).trans rfl, (blk_cell XW.out 2).trans rfl⟩
                go_region_held3 (fun U => U.cell? ⟨bx, 0, none⟩ = some (.int .i64 fr) ∧ U.cell? ⟨bx, 1, none⟩ = some (.int .i64 k) ∧ U.cell? ⟨bx, 2, none⟩ = some (.slice S0 sl cq)) (first | exact hS2 | exact hS1 | exact hS0 | go_keep) (first | (go_at_call 11; go_loud (refine (release_long g a q _ lo w W.drew RW.out fr k S0 sl cq hlong (by omega)).mono ?_; rintro en w1 ⟨rfl, a1⟩; have M1 := Aside0.mk a1; have hx1 := blk_below (w := W.drew) XW.out a1; have XX := Aside0.mk hx1; have hS1 : w1.cell? ⟨bx, 0, none⟩ = some (.int .i64 fr) ∧ w1.cell? ⟨bx, 1, none⟩ = some (.int .i64 k) ∧ w1.cell? ⟨bx, 2, none⟩ = some (.slice S0 sl cq) := ⟨(blk_cell hx1 0).trans rfl, (blk_cell hx1 1).trans rfl, (blk_cell hx1 2).trans rfl⟩; clear hx1 a1)) | (go_at_call 18; go_loud (refine (rref_long h w1 fr k S0 sl cq hlong (by omega)).mono ?_; rintro en w2 ⟨rfl, a1⟩; have M2 := Aside0.mk a1; have hx1 := blk_below XX.out a1; have hS2 : w2.cell? ⟨bx, 0, none⟩ = some (.int .i64 fr) ∧ w2.cell? ⟨bx, 1, none⟩ = some (.int .i64 k) ∧ w2.cell? ⟨bx, 2, none⟩ = some (.slice S0 sl cq) := ⟨(blk_cell hx1 0).trans rfl, (blk_cell hx1 1).trans rfl, (blk_cell hx1 2).trans rfl⟩; clear hx1 a1)))
                go_upto_region 25 with (fail)
                have hbb : Below W.heap.size W w2 := below_step (w := W) (W := w1) (below_step (w := W) (W := W.drew) (below_drew1 (Below.refl W.heap.size W)) M1.out) M2.out
                refine wp_gen (fun V => Aside0 (Inv w V g h (nq) (lo))) ⟨⟨a, q, ql, A, cap, QP, AP, cp, QR, AL, cl, ring_upd (S := fun _ => False) RW.out (Upd.of_below hbb) (fun h => h) (fun _ _ _ h => h.elim), IW.out.upd (S := fun _ => False) (Upd.of_below hbb) (fun _ _ _ h => h.elim) (fun _ _ h => h), FW.out.below hbb, below_step BB.out hbb, E5.out, E6.out, E7.out, E8.out, E9.out⟩⟩ ?_
                obtain ⟨nq3, hnq3⟩ : ∃ n3, (nq) = n3 := ⟨_, rfl⟩
                obtain ⟨lo3, hlo3⟩ : ∃ n3, (lo) = n3 := ⟨_, rfl⟩
                rw [hnq3, hlo3]
                have hlb : 0 ≤ lo3 ∧ lo3 ≤ k + 1 := by omega
                clear hnq3 hlo3
                clear hS0 hbb
                (try clear hS1 hS2)
                rintro W3 I3
                obtain ⟨a3, q3, ql3, A3, cap3, QP3, AP3, cp3, QR3, AL3, cl3, f1, f2, f3, f4, f5, f6, f7, f8, f9⟩ := I3.out
                have u0 : W3.cell? ⟨h, 0, none⟩ = some (.slice AL3 nq3 cl3) := by rw [← f9, ← f5, List.length_map]; exact (blk_cell f3.1 0).trans rfl
                have u2 : W3.cell? ⟨h, 2, none⟩ = some (.int .i64 lo3) := (blk_cell f3.1 2).trans rfl
                have F1 := Aside0.mk f1
                have F4 := Aside0.mk f4
                have F9 := Aside0.mk f9
                clear f1 f2 f3 f4 f5 f6 f7 f8 f9
                go_quiet ((first | (go_at_call 9; (have q := fun m => ring_waiting g a3 q3 _ lo3 w (W3.drewN m) (F1.out.drewN m) (pw_below_drewN F4.out m)); rw [F9.out] at q; exact Calls.quiet_of_same (q _)) | (go_at_call 13; exact Calls.quiet_of_same (ring_lost g a3 q3 _ lo3 w (W3.drewN _) (F1.out.drewN _)))))
                go_wp2
                go_roundw
                case rel => exact ⟨k + 1, nq3, lo3, by go_num, by omega, by omega, ⟨I3.out.drewN _⟩⟩
                case measure => simp [intOf]; omega
              · go_upto_region 10 with (fail)
                have hS0 : W.drew.cell? ⟨bx, 0, none⟩ = some (.int .i64 fr) ∧ W.drew.cell? ⟨bx, 1, none⟩ = some (.int .i64 k) ∧ W.drew.cell? ⟨bx, 2, none⟩ = some (.slice S0 sl cq) := ⟨(blk_cell XW.out 0).trans rfl, (blk_cell XW.out 1).trans rfl, (blk_cell XW.out 2).trans rfl⟩
                go_region_held3 (fun U => U.cell? ⟨bx, 0, none⟩ = some (.int .i64 fr) ∧ U.cell? ⟨bx, 1, none⟩ = some (.int .i64 k) ∧ U.cell? ⟨bx, 2, none⟩ = some (.slice S0 sl cq)) (first | exact hS2 | exact hS1 | exact hS0 | go_keep) (first | (go_at_call 11; go_loud (have hh := release_ok g a q QP A cap lo w W.drew RW.out IW.out E7.out (by omega) fr k S0 cq s (by rw [HSL.out]; omega) (C_below HC.out (below_drew1 BB.out)); rw [HSL.out] at hh; refine hh.mono ?_; rintro en w1 ⟨rfl, A9, c9, v9, a1, a2, a3, a4⟩; have M1 := Aside0.mk a1; have M2 := Aside0.mk a2; have M3 := Aside0.mk a3; have hx1 := Upd.far (a := W.drew) a3 XW.out (fun e => by rcases e with e | e; exact (ring_blk RW.out).elim (fun cs hcs => by have h1 := XW.out; rw [e, hcs.1] at h1; cases h1); have := HAB.out _ e; omega); have XX := Aside0.mk hx1; have hS1 : w1.cell? ⟨bx, 0, none⟩ = some (.int .i64 fr) ∧ w1.cell? ⟨bx, 1, none⟩ = some (.int .i64 k) ∧ w1.cell? ⟨bx, 2, none⟩ = some (.slice S0 sl cq) := ⟨(blk_cell hx1 0).trans rfl, (blk_cell hx1 1).trans rfl, (blk_cell hx1 2).trans rfl⟩; clear hh hx1 a1 a2 a3 a4)) | (go_at_call 18; go_loud (have hf : IsRef w w1 h ql AL cl QR AP cp lo := IsRef.upd (w := W.drew) FW.out M3.out (fun e => by rcases e with e | e; exact HHG.out e; exact a_not2 IW.out FW.out _ e rfl) (fun j cs fr e => by rcases e with e | e; exact g_not RW.out (by decide) j cs fr e; exact fun h2 => IW.out.1.off h2 (by decide) e) (fun j cs fr e => by rcases e with e | e; exact g_not RW.out (by decide) j cs fr e; exact fun h2 => IW.out.1.off h2 (by decide) e) (fun j hj e => by rcases e with e | e; exact ap_not RW.out FW.out j hj e; exact E8.out j e hj); have N0 := Aside0.mk hf; have hh := ref_release h ql AL cl QR AP cp lo w w1 hf (by rw [HNR.out]; omega) (by omega) fr k S0 cq s (by rw [HSL.out]; omega) HC.out; rw [HSL.out] at hh; refine hh.mono ?_; rintro en w2 ⟨rfl, A8, c8, v8, a1, a2, a3⟩; have N1 := Aside0.mk a1; have N2 := Aside0.mk a2; have N3 := Aside0.mk a3; have hx1 := a2.far XX.out (fun e => by have h1 := XX.out; rw [e, hf.1] at h1; cases h1); have hS2 : w2.cell? ⟨bx, 0, none⟩ = some (.int .i64 fr) ∧ w2.cell? ⟨bx, 1, none⟩ = some (.int .i64 k) ∧ w2.cell? ⟨bx, 2, none⟩ = some (.slice S0 sl cq) := ⟨(blk_cell hx1 0).trans rfl, (blk_cell hx1 1).trans rfl, (blk_cell hx1 2).trans rfl⟩; clear hh hf hx1 a1 a2 a3)))
                go_upto_region 25 with (fail)
                have hlen1 : QP.length = QR.length := by rw [HNP.out, HNR.out]
                have n1 := N1.out
                rw [HNR.out] at n1
                have m1 := M1.out
                rw [HNP.out] at m1
                have hb1 : Below w.heap.size w w1 := M3.out.to_below2 (below_drew1 BB.out) (fun j e => by rcases e with e | e; exact g_ge RW.out j e; exact (IW.out.1.lt j e).1)
                refine wp_gen (fun V => Aside0 (Inv w V g h (nq) (if 64 < np + 1 then lo + 1 else lo))) ⟨⟨a, q, ql, A9, c9, heldQ (QP ++ [((fr, (k : Int), s), v9)]), A8, c8, heldQ (QR ++ [((fr, (k : Int), s), v8)]), AL, cl, ring_upd m1 N2.out (fun e => HHG.out e.symm) (h_not N0.out (by decide)), IsIn.upd M2.out N2.out (h_not N0.out (by decide)) (a_not2 M2.out N0.out), n1, N2.out.to_below2 hb1 (h_ge FW.out), E5.out, held_map E6.out hlen1 _ _ _, held_len (by rw [HNP.out]; omega) _, fun j hj hj2 => by obtain ⟨j8, h8, h9⟩ := N3.out; rw [h8] at hj2; cases hj2; have := (M2.out.1.lt _ hj).2; omega, E9.out⟩⟩ ?_
                obtain ⟨nq3, hnq3⟩ : ∃ n3, (nq) = n3 := ⟨_, rfl⟩
                obtain ⟨lo3, hlo3⟩ : ∃ n3, (if 64 < np + 1 then lo + 1 else lo) = n3 := ⟨_, rfl⟩
                rw [hnq3, hlo3]
                have hlb : 0 ≤ lo3 ∧ lo3 ≤ k + 1 := by rw [← hlo3]; split <;> omega
                clear hnq3 hlo3
                clear hS0 hlen1 n1 m1 hb1
                (try clear hS1 hS2)
                rintro W3 I3
                obtain ⟨a3, q3, ql3, A3, cap3, QP3, AP3, cp3, QR3, AL3, cl3, f1, f2, f3, f4, f5, f6, f7, f8, f9⟩ := I3.out
                have u0 : W3.cell? ⟨h, 0, none⟩ = some (.slice AL3 nq3 cl3) := by rw [← f9, ← f5, List.length_map]; exact (blk_cell f3.1 0).trans rfl
                have u2 : W3.cell? ⟨h, 2, none⟩ = some (.int .i64 lo3) := (blk_cell f3.1 2).trans rfl
                have F1 := Aside0.mk f1
                have F4 := Aside0.mk f4
                have F9 := Aside0.mk f9
                clear f1 f2 f3 f4 f5 f6 f7 f8 f9
                go_quiet ((first | (go_at_call 9; (have q := fun m => ring_waiting g a3 q3 _ lo3 w (W3.drewN m) (F1.out.drewN m) (pw_below_drewN F4.out m)); rw [F9.out] at q; exact Calls.quiet_of_same (q _)) | (go_at_call 13; exact Calls.quiet_of_same (ring_lost g a3 q3 _ lo3 w (W3.drewN _) (F1.out.drewN _)))))
                go_wp2
                go_roundw
                case rel => exact ⟨k + 1, nq3, lo3, by go_num, by omega, by omega, ⟨I3.out.drewN _⟩⟩
                case measure => simp [intOf]; omega
            · subst hm
              by_cases hlong : 16 < sl
              · go_upto_region 10 with (fail)
                have hS0 : W.drew.cell? ⟨bx, 0, none⟩ = some (.int .i64 fr) ∧ W.drew.cell? ⟨bx, 1, none⟩ = some (.int .i64 k) ∧ W.drew.cell? ⟨bx, 2, none⟩ = some (.slice S0 sl cq) := ⟨(blk_cell XW.out 0).trans rfl, (blk_cell XW.out 1).trans rfl, (blk_cell XW.out 2).trans rfl⟩
                go_region_held3 (fun U => U.cell? ⟨bx, 0, none⟩ = some (.int .i64 fr) ∧ U.cell? ⟨bx, 1, none⟩ = some (.int .i64 k) ∧ U.cell? ⟨bx, 2, none⟩ = some (.slice S0 sl cq)) (first | exact hS2 | exact hS1 | exact hS0 | go_keep) (first | (go_at_call 11; go_loud (refine (release_long g a q _ lo w W.drew RW.out fr k S0 sl cq hlong (by omega)).mono ?_; rintro en w1 ⟨rfl, a1⟩; have M1 := Aside0.mk a1; have hx1 := blk_below (w := W.drew) XW.out a1; have XX := Aside0.mk hx1; have hS1 : w1.cell? ⟨bx, 0, none⟩ = some (.int .i64 fr) ∧ w1.cell? ⟨bx, 1, none⟩ = some (.int .i64 k) ∧ w1.cell? ⟨bx, 2, none⟩ = some (.slice S0 sl cq) := ⟨(blk_cell hx1 0).trans rfl, (blk_cell hx1 1).trans rfl, (blk_cell hx1 2).trans rfl⟩; clear hx1 a1)) | (go_at_call 18; go_loud (refine (rref_long h w1 fr k S0 sl cq hlong (by omega)).mono ?_; rintro en w2 ⟨rfl, a1⟩; have M2 := Aside0.mk a1; have hx1 := blk_below XX.out a1; have hS2 : w2.cell? ⟨bx, 0, none⟩ = some (.int .i64 fr) ∧ w2.cell? ⟨bx, 1, none⟩ = some (.int .i64 k) ∧ w2.cell? ⟨bx, 2, none⟩ = some (.slice S0 sl cq) := ⟨(blk_cell hx1 0).trans rfl, (blk_cell hx1 1).trans rfl, (blk_cell hx1 2).trans rfl⟩; clear hx1 a1)))
                go_upto_region 25 with (fail)
                have hbb : Below W.heap.size W w2 := below_step (w := W) (W := w1) (below_step (w := W) (W := W.drew) (below_drew1 (Below.refl W.heap.size W)) M1.out) M2.out
                refine wp_gen (fun V => Aside0 (Inv w V g h (nq) (lo))) ⟨⟨a, q, ql, A, cap, QP, AP, cp, QR, AL, cl, ring_upd (S := fun _ => False) RW.out (Upd.of_below hbb) (fun h => h) (fun _ _ _ h => h.elim), IW.out.upd (S := fun _ => False) (Upd.of_below hbb) (fun _ _ _ h => h.elim) (fun _ _ h => h), FW.out.below hbb, below_step BB.out hbb, E5.out, E6.out, E7.out, E8.out, E9.out⟩⟩ ?_
                obtain ⟨nq3, hnq3⟩ : ∃ n3, (nq) = n3 := ⟨_, rfl⟩
                obtain ⟨lo3, hlo3⟩ : ∃ n3, (lo) = n3 := ⟨_, rfl⟩
                rw [hnq3, hlo3]
                have hlb : 0 ≤ lo3 ∧ lo3 ≤ k + 1 := by omega
                clear hnq3 hlo3
                clear hS0 hbb
                (try clear hS1 hS2)
                rintro W3 I3
                obtain ⟨a3, q3, ql3, A3, cap3, QP3, AP3, cp3, QR3, AL3, cl3, f1, f2, f3, f4, f5, f6, f7, f8, f9⟩ := I3.out
                have u0 : W3.cell? ⟨h, 0, none⟩ = some (.slice AL3 nq3 cl3) := by rw [← f9, ← f5, List.length_map]; exact (blk_cell f3.1 0).trans rfl
                have u2 : W3.cell? ⟨h, 2, none⟩ = some (.int .i64 lo3) := (blk_cell f3.1 2).trans rfl
                have F1 := Aside0.mk f1
                have F4 := Aside0.mk f4
                have F9 := Aside0.mk f9
                clear f1 f2 f3 f4 f5 f6 f7 f8 f9
                go_quiet ((first | (go_at_call 9; (have q := fun m => ring_waiting g a3 q3 _ lo3 w (W3.drewN m) (F1.out.drewN m) (pw_below_drewN F4.out m)); rw [F9.out] at q; exact Calls.quiet_of_same (q _)) | (go_at_call 13; exact Calls.quiet_of_same (ring_lost g a3 q3 _ lo3 w (W3.drewN _) (F1.out.drewN _)))))
                go_wp2
                go_roundw
                case rel => exact ⟨k + 1, nq3, lo3, by go_num, by omega, by omega, ⟨I3.out.drewN _⟩⟩
                case measure => simp [intOf]; omega
              · go_upto_region 10 with (fail)
                have hS0 : W.drew.cell? ⟨bx, 0, none⟩ = some (.int .i64 fr) ∧ W.drew.cell? ⟨bx, 1, none⟩ = some (.int .i64 k) ∧ W.drew.cell? ⟨bx, 2, none⟩ = some (.slice S0 sl cq) := ⟨(blk_cell XW.out 0).trans rfl, (blk_cell XW.out 1).trans rfl, (blk_cell XW.out 2).trans rfl⟩
                go_region_held3 (fun U => U.cell? ⟨bx, 0, none⟩ = some (.int .i64 fr) ∧ U.cell? ⟨bx, 1, none⟩ = some (.int .i64 k) ∧ U.cell? ⟨bx, 2, none⟩ = some (.slice S0 sl cq)) (first | exact hS2 | exact hS1 | exact hS0 | go_keep) (first | (go_at_call 11; go_loud (have hh := release_ok g a q QP A cap lo w W.drew RW.out IW.out E7.out (by omega) fr k S0 cq s (by rw [HSL.out]; omega) (C_below HC.out (below_drew1 BB.out)); rw [HSL.out] at hh; refine hh.mono ?_; rintro en w1 ⟨rfl, A9, c9, v9, a1, a2, a3, a4⟩; have M1 := Aside0.mk a1; have M2 := Aside0.mk a2; have M3 := Aside0.mk a3; have hx1 := Upd.far (a := W.drew) a3 XW.out (fun e => by rcases e with e | e; exact (ring_blk RW.out).elim (fun cs hcs => by have h1 := XW.out; rw [e, hcs.1] at h1; cases h1); have := HAB.out _ e; omega); have XX := Aside0.mk hx1; have hS1 : w1.cell? ⟨bx, 0, none⟩ = some (.int .i64 fr) ∧ w1.cell? ⟨bx, 1, none⟩ = some (.int .i64 k) ∧ w1.cell? ⟨bx, 2, none⟩ = some (.slice S0 sl cq) := ⟨(blk_cell hx1 0).trans rfl, (blk_cell hx1 1).trans rfl, (blk_cell hx1 2).trans rfl⟩; clear hh hx1 a1 a2 a3 a4)) | (go_at_call 18; go_loud (have hf : IsRef w w1 h ql AL cl QR AP cp lo := IsRef.upd (w := W.drew) FW.out M3.out (fun e => by rcases e with e | e; exact HHG.out e; exact a_not2 IW.out FW.out _ e rfl) (fun j cs fr e => by rcases e with e | e; exact g_not RW.out (by decide) j cs fr e; exact fun h2 => IW.out.1.off h2 (by decide) e) (fun j cs fr e => by rcases e with e | e; exact g_not RW.out (by decide) j cs fr e; exact fun h2 => IW.out.1.off h2 (by decide) e) (fun j hj e => by rcases e with e | e; exact ap_not RW.out FW.out j hj e; exact E8.out j e hj); have N0 := Aside0.mk hf; have hh := ref_release h ql AL cl QR AP cp lo w w1 hf (by rw [HNR.out]; omega) (by omega) fr k S0 cq s (by rw [HSL.out]; omega) HC.out; rw [HSL.out] at hh; refine hh.mono ?_; rintro en w2 ⟨rfl, A8, c8, v8, a1, a2, a3⟩; have N1 := Aside0.mk a1; have N2 := Aside0.mk a2; have N3 := Aside0.mk a3; have hx1 := a2.far XX.out (fun e => by have h1 := XX.out; rw [e, hf.1] at h1; cases h1); have hS2 : w2.cell? ⟨bx, 0, none⟩ = some (.int .i64 fr) ∧ w2.cell? ⟨bx, 1, none⟩ = some (.int .i64 k) ∧ w2.cell? ⟨bx, 2, none⟩ = some (.slice S0 sl cq) := ⟨(blk_cell hx1 0).trans rfl, (blk_cell hx1 1).trans rfl, (blk_cell hx1 2).trans rfl⟩; clear hh hf hx1 a1 a2 a3)))
                go_upto_region 25 with (fail)
                have hlen1 : QP.length = QR.length := by rw [HNP.out, HNR.out]
                have n1 := N1.out
                rw [HNR.out] at n1
                have m1 := M1.out
                rw [HNP.out] at m1
                have hb1 : Below w.heap.size w w1 := M3.out.to_below2 (below_drew1 BB.out) (fun j e => by rcases e with e | e; exact g_ge RW.out j e; exact (IW.out.1.lt j e).1)
                refine wp_gen (fun V => Aside0 (Inv w V g h (nq) (if 64 < np + 1 then lo + 1 else lo))) ⟨⟨a, q, ql, A9, c9, heldQ (QP ++ [((fr, (k : Int), s), v9)]), A8, c8, heldQ (QR ++ [((fr, (k : Int), s), v8)]), AL, cl, ring_upd m1 N2.out (fun e => HHG.out e.symm) (h_not N0.out (by decide)), IsIn.upd M2.out N2.out (h_not N0.out (by decide)) (a_not2 M2.out N0.out), n1, N2.out.to_below2 hb1 (h_ge FW.out), E5.out, held_map E6.out hlen1 _ _ _, held_len (by rw [HNP.out]; omega) _, fun j hj hj2 => by obtain ⟨j8, h8, h9⟩ := N3.out; rw [h8] at hj2; cases hj2; have := (M2.out.1.lt _ hj).2; omega, E9.out⟩⟩ ?_
                obtain ⟨nq3, hnq3⟩ : ∃ n3, (nq) = n3 := ⟨_, rfl⟩
                obtain ⟨lo3, hlo3⟩ : ∃ n3, (if 64 < np + 1 then lo + 1 else lo) = n3 := ⟨_, rfl⟩
                rw [hnq3, hlo3]
                have hlb : 0 ≤ lo3 ∧ lo3 ≤ k + 1 := by rw [← hlo3]; split <;> omega
                clear hnq3 hlo3
                clear hS0 hlen1 n1 m1 hb1
                (try clear hS1 hS2)
                rintro W3 I3
                obtain ⟨a3, q3, ql3, A3, cap3, QP3, AP3, cp3, QR3, AL3, cl3, f1, f2, f3, f4, f5, f6, f7, f8, f9⟩ := I3.out
                have u0 : W3.cell? ⟨h, 0, none⟩ = some (.slice AL3 nq3 cl3) := by rw [← f9, ← f5, List.length_map]; exact (blk_cell f3.1 0).trans rfl
                have u2 : W3.cell? ⟨h, 2, none⟩ = some (.int .i64 lo3) := (blk_cell f3.1 2).trans rfl
                have F1 := Aside0.mk f1
                have F4 := Aside0.mk f4
                have F9 := Aside0.mk f9
                clear f1 f2 f3 f4 f5 f6 f7 f8 f9
                go_quiet ((first | (go_at_call 9; (have q := fun m => ring_waiting g a3 q3 _ lo3 w (W3.drewN m) (F1.out.drewN m) (pw_below_drewN F4.out m)); rw [F9.out] at q; exact Calls.quiet_of_same (q _)) | (go_at_call 13; exact Calls.quiet_of_same (ring_lost g a3 q3 _ lo3 w (W3.drewN _) (F1.out.drewN _)))))
                go_wp2
                go_roundw
                case rel => exact ⟨k + 1, nq3, lo3, by go_num, by omega, by omega, ⟨I3.out.drewN _⟩⟩
                case measure => simp [intOf]; omega
          · have c8b : decide ((k : Int) < 400) = false := decide_eq_false (by omega)
            have HHG : Aside0 (h ≠ g) := ⟨fun e => by obtain ⟨cs, h1, _⟩ := ring_blk Q1.out; rw [← e, Q4.out.1] at h1; cases h1⟩
            go_upto_region 27 with (fail)
            have hS0 : wr.drew.cell? ⟨h, 1, none⟩ = some (.slice AP np cp) := by rw [← HNR.out]; exact (blk_cell Q4.out.1 1).trans rfl
            go_region_held3 (fun U => U.cell? ⟨h, 1, none⟩ = some (.slice AP np cp)) (first | exact hS3 | exact hS2 | exact hS1 | exact hS0 | go_keep) (first | (go_at_call 12; go_loud (have hh := poll_ok g a q A QP.length cap lo w wr.drew Q1.out; rw [HNP.out] at hh; refine hh.mono ?_; rintro en w5 ⟨rfl, a1, a2⟩; have M2 := Aside0.mk a2; have hS1 : w5.cell? ⟨h, 1, none⟩ = some (.slice AP np cp) := a2.cellF hS0 HHG.out; clear hh a1 a2)) | (go_at_call 16; go_loud (have hi := IsIn.upd (w := wr.drew) Q2.out M2.out (g_not Q1.out (by decide)) (a_not Q1.out Q2.out); have hp := IsRP.upd (w := wr.drew) Q4.out.2.2.2.2 M2.out (ap_not Q1.out Q4.out); have hb2 : Below w.heap.size w w5 := M2.out.to_below2 (below_drew1 Q3.out) (g_ge Q1.out); have hi1 := hi.1; have hp1 := hp.1; rw [HNP.out] at hi1; rw [HNR.out] at hp1; refine (pays_yes A AP np cap cp QP QR w5 w.heap.size w.heap.size hi1 hp1 HNP.out HNR.out E6.out (has_own hi.2) (has_arg hp.2 hb2) (by omega)).mono ?_; rintro en w6 ⟨rfl, a1⟩; have T1 := Aside0.mk a1; have T2 := Aside0.mk hb2; have hS2 : w6.cell? ⟨h, 1, none⟩ = some (.slice AP np cp) := cell_bel a1 hS1; clear hi hp hb2 hi1 hp1 a1)) | (go_at_call 10; go_loud (refine (awake_ok w6).mono ?_; rintro en w7 ⟨rfl, a1⟩; have T3 := Aside0.mk a1; have hS3 : w7.cell? ⟨h, 1, none⟩ = some (.slice AP np cp) := cell_bel a1 hS2; clear a1)))
            go_wp2
            go_ret
            exact ⟨rfl, below_step (below_step T2.out T1.out) T3.out⟩
        · have c7b : decide ((k : Int) < (l2.length : Int)) = false := decide_eq_false (by omega)
          have HHG : Aside0 (h ≠ g) := ⟨fun e => by obtain ⟨cs, h1, _⟩ := ring_blk Q1.out; rw [← e, Q4.out.1] at h1; cases h1⟩
          go_upto_region 27 with (fail)
          have hS0 : wr.drew.cell? ⟨h, 1, none⟩ = some (.slice AP np cp) := by rw [← HNR.out]; exact (blk_cell Q4.out.1 1).trans rfl
          go_region_held3 (fun U => U.cell? ⟨h, 1, none⟩ = some (.slice AP np cp)) (first | exact hS3 | exact hS2 | exact hS1 | exact hS0 | go_keep) (first | (go_at_call 12; go_loud (have hh := poll_ok g a q A QP.length cap lo w wr.drew Q1.out; rw [HNP.out] at hh; refine hh.mono ?_; rintro en w5 ⟨rfl, a1, a2⟩; have M2 := Aside0.mk a2; have hS1 : w5.cell? ⟨h, 1, none⟩ = some (.slice AP np cp) := a2.cellF hS0 HHG.out; clear hh a1 a2)) | (go_at_call 16; go_loud (have hi := IsIn.upd (w := wr.drew) Q2.out M2.out (g_not Q1.out (by decide)) (a_not Q1.out Q2.out); have hp := IsRP.upd (w := wr.drew) Q4.out.2.2.2.2 M2.out (ap_not Q1.out Q4.out); have hb2 : Below w.heap.size w w5 := M2.out.to_below2 (below_drew1 Q3.out) (g_ge Q1.out); have hi1 := hi.1; have hp1 := hp.1; rw [HNP.out] at hi1; rw [HNR.out] at hp1; refine (pays_yes A AP np cap cp QP QR w5 w.heap.size w.heap.size hi1 hp1 HNP.out HNR.out E6.out (has_own hi.2) (has_arg hp.2 hb2) (by omega)).mono ?_; rintro en w6 ⟨rfl, a1⟩; have T1 := Aside0.mk a1; have T2 := Aside0.mk hb2; have hS2 : w6.cell? ⟨h, 1, none⟩ = some (.slice AP np cp) := cell_bel a1 hS1; clear hi hp hb2 hi1 hp1 a1)) | (go_at_call 10; go_loud (refine (awake_ok w6).mono ?_; rintro en w7 ⟨rfl, a1⟩; have T3 := Aside0.mk a1; have hS3 : w7.cell? ⟨h, 1, none⟩ = some (.slice AP np cp) := cell_bel a1 hS2; clear a1)))
          go_wp2
          go_ret
          exact ⟨rfl, below_step (below_step T2.out T1.out) T3.out⟩
      · have c6b : decide ((k : Int) < (n1 : Int)) = false := decide_eq_false (by omega)
        have HHG : Aside0 (h ≠ g) := ⟨fun e => by obtain ⟨cs, h1, _⟩ := ring_blk Q1.out; rw [← e, Q4.out.1] at h1; cases h1⟩
        go_upto_region 27 with (fail)
        have hS0 : wr.drew.cell? ⟨h, 1, none⟩ = some (.slice AP np cp) := by rw [← HNR.out]; exact (blk_cell Q4.out.1 1).trans rfl
        go_region_held3 (fun U => U.cell? ⟨h, 1, none⟩ = some (.slice AP np cp)) (first | exact hS3 | exact hS2 | exact hS1 | exact hS0 | go_keep) (first | (go_at_call 12; go_loud (have hh := poll_ok g a q A QP.length cap lo w wr.drew Q1.out; rw [HNP.out] at hh; refine hh.mono ?_; rintro en w5 ⟨rfl, a1, a2⟩; have M2 := Aside0.mk a2; have hS1 : w5.cell? ⟨h, 1, none⟩ = some (.slice AP np cp) := a2.cellF hS0 HHG.out; clear hh a1 a2)) | (go_at_call 16; go_loud (have hi := IsIn.upd (w := wr.drew) Q2.out M2.out (g_not Q1.out (by decide)) (a_not Q1.out Q2.out); have hp := IsRP.upd (w := wr.drew) Q4.out.2.2.2.2 M2.out (ap_not Q1.out Q4.out); have hb2 : Below w.heap.size w w5 := M2.out.to_below2 (below_drew1 Q3.out) (g_ge Q1.out); have hi1 := hi.1; have hp1 := hp.1; rw [HNP.out] at hi1; rw [HNR.out] at hp1; refine (pays_yes A AP np cap cp QP QR w5 w.heap.size w.heap.size hi1 hp1 HNP.out HNR.out E6.out (has_own hi.2) (has_arg hp.2 hb2) (by omega)).mono ?_; rintro en w6 ⟨rfl, a1⟩; have T1 := Aside0.mk a1; have T2 := Aside0.mk hb2; have hS2 : w6.cell? ⟨h, 1, none⟩ = some (.slice AP np cp) := cell_bel a1 hS1; clear hi hp hb2 hi1 hp1 a1)) | (go_at_call 10; go_loud (refine (awake_ok w6).mono ?_; rintro en w7 ⟨rfl, a1⟩; have T3 := Aside0.mk a1; have hS3 : w7.cell? ⟨h, 1, none⟩ = some (.slice AP np cp) := cell_bel a1 hS2; clear a1)))
        go_wp2
        go_ret
        exact ⟨rfl, below_step (below_step T2.out T1.out) T3.out⟩
    · have c5b : decide ((k : Int) < (l0.length : Int)) = false := decide_eq_false (by omega)
      have HHG : Aside0 (h ≠ g) := ⟨fun e => by obtain ⟨cs, h1, _⟩ := ring_blk Q1.out; rw [← e, Q4.out.1] at h1; cases h1⟩
      go_upto_region 27 with (fail)
      have hS0 : wr.drew.cell? ⟨h, 1, none⟩ = some (.slice AP np cp) := by rw [← HNR.out]; exact (blk_cell Q4.out.1 1).trans rfl
      go_region_held3 (fun U => U.cell? ⟨h, 1, none⟩ = some (.slice AP np cp)) (first | exact hS3 | exact hS2 | exact hS1 | exact hS0 | go_keep) (first | (go_at_call 12; go_loud (have hh := poll_ok g a q A QP.length cap lo w wr.drew Q1.out; rw [HNP.out] at hh; refine hh.mono ?_; rintro en w5 ⟨rfl, a1, a2⟩; have M2 := Aside0.mk a2; have hS1 : w5.cell? ⟨h, 1, none⟩ = some (.slice AP np cp) := a2.cellF hS0 HHG.out; clear hh a1 a2)) | (go_at_call 16; go_loud (have hi := IsIn.upd (w := wr.drew) Q2.out M2.out (g_not Q1.out (by decide)) (a_not Q1.out Q2.out); have hp := IsRP.upd (w := wr.drew) Q4.out.2.2.2.2 M2.out (ap_not Q1.out Q4.out); have hb2 : Below w.heap.size w w5 := M2.out.to_below2 (below_drew1 Q3.out) (g_ge Q1.out); have hi1 := hi.1; have hp1 := hp.1; rw [HNP.out] at hi1; rw [HNR.out] at hp1; refine (pays_yes A AP np cap cp QP QR w5 w.heap.size w.heap.size hi1 hp1 HNP.out HNR.out E6.out (has_own hi.2) (has_arg hp.2 hb2) (by omega)).mono ?_; rintro en w6 ⟨rfl, a1⟩; have T1 := Aside0.mk a1; have T2 := Aside0.mk hb2; have hS2 : w6.cell? ⟨h, 1, none⟩ = some (.slice AP np cp) := cell_bel a1 hS1; clear hi hp hb2 hi1 hp1 a1)) | (go_at_call 10; go_loud (refine (awake_ok w6).mono ?_; rintro en w7 ⟨rfl, a1⟩; have T3 := Aside0.mk a1; have hS3 : w7.cell? ⟨h, 1, none⟩ = some (.slice AP np cp) := cell_bel a1 hS2; clear a1)))
      go_wp2
      go_ret
      exact ⟨rfl, below_step (below_step T2.out T1.out) T3.out⟩
end Go.Proofs.Ytmofahlmcpeanaa.Hsa
