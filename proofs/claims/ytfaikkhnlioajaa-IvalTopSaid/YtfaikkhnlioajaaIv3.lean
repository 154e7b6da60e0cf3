/- What the reference tells of where most meet. -/
import Derived.Test.YtfaikkhnlioajaaProg
import Derived.Below
import Derived.Deep.Draws
import Derived.Deep.AppendLies
import Derived.Maps.AppendAt
import Derived.OwnWalk
import Derived.Laws.BytesArg
import Derived.Laws.MakeOwn
import Derived.Laws.OwnMore
import Derived.Deep.OwnRows
import Derived.Tactics
import Derived.Lib.ConvBytes
import Derived.Laws.Slices
import Derived.WalkKit
import Derived.KernelRfl
import Derived.RowKit3
import Derived.Deep.LoopGhost
import Derived.Deep.QuietTactic
import Derived.BigQuiet
import Derived.WideLaws
import Derived.Deep.DeepCutAuto
import Derived.Deep.CutBlock
import Derived.Deep.RegionHeld3
import Derived.Laws.Rows
import Derived.Lib.AppendStr
import Derived.ArgAppend
import Derived.Laws.IdiomCopy
import Derived.OrdersHeld
import Derived.Laws.BitsLemmas
import Derived.RowKit
import Derived.RegionTactic
import Derived.ChangeAlike
import Derived.Outline
import Derived.LoopTactic
import Derived.WalkSpells
import Derived.WalkLawsBesides
import Derived.Lib.Hide
import Derived.StillTailTactics
import Derived.Deep.RegionWith
import Derived.Deep.RegionLaw
import Derived.Deep.DeepFit
import Derived.Deep.DeepMust
import Derived.Test.YtfaikkhnlioajaaWWords
import Derived.Test.YtfaikkhnlioajaaWLast
import Derived.Test.YtfaikkhnlioajaaWTab
import Derived.Test.YtfaikkhnlioajaaWFour
import Derived.Test.YtfaikkhnlioajaaWQPut
import Derived.Test.YtfaikkhnlioajaaWApart
import Derived.Test.YtfaikkhnlioajaaWArr
import Derived.Test.YtfaikkhnlioajaaWZeros
import Derived.Test.YtfaikkhnlioajaaWFoot
import Derived.Test.YtfaikkhnlioajaaWKept
import Derived.Test.YtfaikkhnlioajaaWShare
import Derived.Test.YtfaikkhnlioajaaWN
import Derived.Test.YtfaikkhnlioajaaWFootNe
import Derived.Test.YtfaikkhnlioajaaWAt
import Derived.Test.YtfaikkhnlioajaaWEqStruct
import Derived.Test.YtfaikkhnlioajaaWRepsOne
import Derived.Test.YtfaikkhnlioajaaWInv
import Derived.Test.YtfaikkhnlioajaaWInvWords
import Derived.Test.YtfaikkhnlioajaaWGuard
import Derived.Test.YtfaikkhnlioajaaWNEv
import Derived.Test.YtfaikkhnlioajaaWMore
import Derived.Test.YtfaikkhnlioajaaIv2
import Derived.Test.YtfaikkhnlioajaaBRef08Most
import Derived.Test.YtfaikkhnlioajaaBIvalHolds
namespace Go.Proofs.Ytfaikkhnlioajaa.Iv3
open Go.RowKit Go.Proofs.YtfaikkhnlioajaaW.PrintWords Go.Proofs.YtfaikkhnlioajaaW.PrintLast Go.Proofs.YtfaikkhnlioajaaW.PrintMore 
attribute [local go_sem] max2_int min2_int max_two min_two max_three min_three max_four min_four
set_option linter.unusedVariables false
set_option linter.unusedSimpArgs false
open Go.Proofs.Ytfaikkhnlioajaa.QBase Go.Proofs.Ytfaikkhnlioajaa.Iv2

def pr (x : S61) : Int × Int := (x.f0, x.f1)
theorem rt_iff (x : Int × Int) : rt x = true ↔ (x.1 ≤ x.2 ∧ -1099511627776 ≤ x.1 ∧ x.2 ≤ 1099511627776) := by unfold rt MT; simp
theorem right_eq (a b : Int) : carillonref08_Right.f a b = some (rt (a, b)) := by
  unfold carillonref08_Right.f
  congr 1
  split
  · split
    · congr 1; rw [Bool.eq_iff_iff, rt_iff]; simp; omega
    · congr 1; symm; rw [Bool.eq_false_iff]; intro h; rw [rt_iff] at h; simp at h; omega
  · congr 1; symm; rw [Bool.eq_false_iff]; intro h; rw [rt_iff] at h; simp at h; omega
theorem iright_eq (a b : Int) : ival_Right.f a b = some (rt (a, b)) := by
  unfold ival_Right.f
  split
  · split
    · congr 1; rw [Bool.eq_iff_iff, rt_iff]; simp; omega
    · congr 1; symm; rw [Bool.eq_false_iff]; intro h; rw [rt_iff] at h; simp at h; omega
  · congr 1; symm; rw [Bool.eq_false_iff]; intro h; rw [rt_iff] at h; simp at h; omega
theorem hold_split (a b v : Int) : (if rt (a, b) = true then (if a ≤ v then (some (decide (v ≤ b))) else (some false)) else (some false)) = some (hold (a, b) v) := by
  unfold hold
  split
  · rename_i h
    split
    · rename_i h2; simp [h, h2]
    · rename_i h2; simp [h2]
  · rename_i h; simp [h]
theorem holds_eq (a b v : Int) : carillonref08_Holds.f a b v = some (hold (a, b) v) := by
  unfold carillonref08_Holds.f
  rw [right_eq]
  exact hold_split a b v
theorem iholds_eq (a b v : Int) : ival_Holds.f a b v = some (hold (a, b) v) := by
  unfold ival_Holds.f
  rw [iright_eq]
  exact hold_split a b v
theorem wrap_small (x : Int) (h1 : -9000000000000000000 ≤ x) (h2 : x ≤ 9000000000000000000) : wrap64 x = x := by
  unfold wrap64; omega
theorem rd_at (L : List S61) (i : Nat) (h : i < L.length) : rd_T61 L (i : Int) = L[i] := by
  unfold rd_T61
  rw [Int.toNat_natCast, List.getD_eq_getElem?_getD, List.getElem?_eq_getElem h]; rfl
theorem cnt_cons (x : Int × Int) (M : List (Int × Int)) (v : Int) : cnt (x :: M) v = (if hold x v = true then 1 else 0) + cnt M v := by
  unfold cnt
  rw [List.filter_cons]
  split
  · rw [List.length_cons]; omega
  · omega
theorem cnt_nonneg (M : List (Int × Int)) (v : Int) : 0 ≤ cnt M v := by unfold cnt; omega
theorem cnt_le (M : List (Int × Int)) (v : Int) : cnt M v ≤ M.length := by unfold cnt; have := List.length_filter_le (fun x => hold x v) M; omega
theorem count_go (L : List S61) (v : Int) (hL : L.length ≤ 4611686018427387904) : ∀ (n i : Nat) (acc : Int) (k : Nat), i + n = L.length → n < k → 0 ≤ acc → acc ≤ i → carillonref08_count.l0 k L v acc i = some (acc + cnt ((L.drop i).map pr) v)
  | 0, i, acc, k, hi, hk, _, _ => by
    obtain ⟨k, rfl⟩ : ∃ k', k = k' + 1 := ⟨k - 1, by omega⟩
    unfold carillonref08_count.l0
    rw [if_neg (by omega), List.drop_eq_nil_of_le (by omega)]
    simp [cnt]
  | n + 1, i, acc, k, hi, hk, h0, h1 => by
    obtain ⟨k, rfl⟩ : ∃ k', k = k' + 1 := ⟨k - 1, by omega⟩
    unfold carillonref08_count.l0
    have hlt : i < L.length := by omega
    rw [if_pos (by omega), if_pos (by omega), rd_at L i hlt, holds_eq]
    have e : (L.drop i).map pr = pr L[i] :: (L.drop (i + 1)).map pr := by rw [List.drop_eq_getElem_cons hlt]; rfl
    rw [e, cnt_cons, wrap_small (i + 1) (by omega) (by omega), wrap_small (acc + 1) (by omega) (by omega)]
    show (if hold (pr L[i]) v = true then _ else _) = _
    split
    · rw [show (i : Int) + 1 = ((i + 1 : Nat) : Int) by omega, count_go L v hL n (i + 1) (acc + 1) k (by omega) (by omega) (by omega) (by omega)]
      congr 1; omega
    · rw [show (i : Int) + 1 = ((i + 1 : Nat) : Int) by omega, count_go L v hL n (i + 1) acc k (by omega) (by omega) (by omega) (by omega)]
      congr 1; omega
theorem count_eq (L : List S61) (v : Int) (hL : L.length ≤ 4611686018427387904) (k : Nat) (hk : L.length < k) : carillonref08_count.f k L v = some (cnt (L.map pr) v) := by
  have := count_go L v hL L.length 0 0 k (by omega) hk (by omega) (by omega)
  unfold carillonref08_count.f
  simpa using this
def Mn (M : List (Int × Int)) (lo : Int) (j : Nat) (hi : Int) : Prop := (∀ x ∈ M.take j, hold x lo = true → hi ≤ x.2) ∧ (hi = 1099511627776 ∨ ∃ x ∈ M, hold x lo = true ∧ x.2 = hi)
theorem take_more (M : List (Int × Int)) (i : Nat) (h : i < M.length) (x : Int × Int) : x ∈ M.take (i + 1) ↔ x ∈ M.take i ∨ x = M[i] := by
  rw [List.take_succ_eq_append_getElem h, List.mem_append, List.mem_singleton]
theorem inner_go (L : List S61) (i0 : Int) (lo kk : Int) (hL : L.length ≤ 4611686018427387904) : ∀ (n j : Nat) (hi : Int) (k : Nat), j + n = L.length → n < k → Mn (L.map pr) lo j hi →
    ∃ hi', Mn (L.map pr) lo L.length hi' ∧ carillonref08_Most.l1 k L i0 lo kk hi j = carillonref08_Most.l0 (k - n - 1) L kk (wrap64 (i0 + 1)) lo hi'
  | 0, j, hi, k, hj, hk, hm => by
    obtain ⟨k, rfl⟩ : ∃ k', k = k' + 1 := ⟨k - 1, by omega⟩
    unfold carillonref08_Most.l1
    rw [if_neg (by omega)]
    exact ⟨hi, by rw [show L.length = j by omega]; exact hm, rfl⟩
  | n + 1, j, hi, k, hj, hk, hm => by
    obtain ⟨k, rfl⟩ : ∃ k', k = k' + 1 := ⟨k - 1, by omega⟩
    unfold carillonref08_Most.l1
    have hlt : j < L.length := by omega
    have hlt2 : j < (L.map pr).length := by simpa using hlt
    have hx : (L.map pr)[j] = pr L[j] := by simp
    rw [if_pos (by omega), if_pos (by omega), rd_at L j hlt, holds_eq, wrap_small (j + 1) (by omega) (by omega), show (j : Int) + 1 = ((j + 1 : Nat) : Int) by omega, show k + 1 - (n + 1) - 1 = k - n - 1 by omega]
    show ∃ hi', _ ∧ (if hold (pr L[j]) lo = true then _ else _) = _
    split
    · rename_i hh
      refine inner_go L i0 lo kk hL n (j + 1) _ k (by omega) (by omega) ⟨?_, ?_⟩
      · intro x hxm hhx
        rw [take_more _ _ hlt2] at hxm
        unfold mn
        rcases hxm with hxm | hxm
        · have := hm.1 x hxm hhx; split <;> omega
        · rw [hxm, hx]
          show _ ≤ L[j].f1
          split <;> omega
      · unfold mn
        split
        · exact Or.inr ⟨pr L[j], List.mem_map.mpr ⟨_, List.getElem_mem hlt, rfl⟩, hh, rfl⟩
        · exact hm.2
    · rename_i hh
      refine inner_go L i0 lo kk hL n (j + 1) _ k (by omega) (by omega) ⟨?_, hm.2⟩
      intro x hxm hhx
      rw [take_more _ _ hlt2] at hxm
      rcases hxm with hxm | hxm
      · exact hm.1 x hxm hhx
      · rw [hxm, hx] at hhx; exact absurd hhx hh
def Inv (M : List (Int × Int)) (i : Nat) (many lo hi : Int) : Prop :=
  (lo = 0 ∧ hi = 0 ∧ many = 0 ∧ ∀ x ∈ M.take i, rt x = false) ∨
  (0 < many ∧ many = cnt M lo ∧ (∃ x ∈ M, rt x = true ∧ x.1 = lo) ∧ (∀ x ∈ M.take i, rt x = true → cnt M x.1 ≤ many ∧ (cnt M x.1 = many → lo ≤ x.1)) ∧
    (∃ x ∈ M, hold x lo = true ∧ x.2 = hi) ∧ (∀ x ∈ M, hold x lo = true → hi ≤ x.2))
theorem self_hold {x : Int × Int} (h : rt x = true) : hold x x.1 = true := by
  have := (rt_iff x).mp h
  unfold hold; simp [h]; omega
theorem cnt_pos {M : List (Int × Int)} {x : Int × Int} (hx : x ∈ M) (h : rt x = true) : 0 < cnt M x.1 := by
  have : x ∈ M.filter fun y => hold y x.1 := List.mem_filter.mpr ⟨hx, self_hold h⟩
  have := List.length_pos_of_mem this
  unfold cnt; omega
theorem most_go (L : List S61) (hL : L.length ≤ 4611686018427387904) : ∀ (n i : Nat) (many lo hi : Int) (k : Nat), i + n = L.length → n * (L.length + 4) + L.length + 4 ≤ k → Inv (L.map pr) i many lo hi →
    ∃ lo' hi' m', carillonref08_Most.l0 k L many i lo hi = some (lo', hi', m') ∧ Inv (L.map pr) L.length m' lo' hi'
  | 0, i, many, lo, hi, k, hi0, hk, hv => by
    obtain ⟨k, rfl⟩ : ∃ k', k = k' + 1 := ⟨k - 1, by omega⟩
    unfold carillonref08_Most.l0
    rw [if_neg (by omega)]
    exact ⟨lo, hi, many, rfl, by rw [show L.length = i by omega]; exact hv⟩
  | n + 1, i, many, lo, hi, k, hi0, hk, hv => by
    obtain ⟨k, rfl⟩ : ∃ k', k = k' + 1 := ⟨k - 1, by omega⟩
    have hmul : (n + 1) * (L.length + 4) = n * (L.length + 4) + (L.length + 4) := by rw [Nat.succ_mul]
    rw [hmul] at hk
    unfold carillonref08_Most.l0
    have hlt : i < L.length := by omega
    have hlt2 : i < (L.map pr).length := by simpa using hlt
    have hx : (L.map pr)[i] = pr L[i] := by simp
    have hxm : pr L[i] ∈ L.map pr := List.mem_map.mpr ⟨_, List.getElem_mem hlt, rfl⟩
    rw [if_pos (by omega), if_pos (by omega), rd_at L i hlt, right_eq, count_eq L _ hL k (by omega), wrap_small (i + 1) (by omega) (by omega), show (i : Int) + 1 = ((i + 1 : Nat) : Int) by omega]
    show ∃ lo' hi' m', (if rt (pr L[i]) = true then (if cnt (L.map pr) (pr L[i]).1 < many then _ else if cnt (L.map pr) (pr L[i]).1 = many then _ else _) else _) = _ ∧ _
    obtain ⟨x, ex⟩ : ∃ x, pr L[i] = x := ⟨_, rfl⟩
    have e0 : L[i].f0 = x.1 := by rw [← ex]; rfl
    rw [ex, e0]
    rw [ex] at hx hxm
    have hcl := cnt_le (L.map pr) x.1
    rw [List.length_map] at hcl
    cases hrx : rt x with
    | false =>
      rw [if_neg (by decide)]
      refine most_go L hL n (i + 1) many lo hi k (by omega) (by omega) ?_
      rcases hv with ⟨a1, a2, a3, a4⟩ | ⟨a1, a2, a3, a4, a5, a6⟩
      · refine Or.inl ⟨a1, a2, a3, fun y hy => ?_⟩
        rw [take_more _ _ hlt2, hx] at hy
        rcases hy with hy | hy
        · exact a4 y hy
        · rw [hy]; exact hrx
      · refine Or.inr ⟨a1, a2, a3, fun y hy hry => ?_, a5, a6⟩
        rw [take_more _ _ hlt2, hx] at hy
        rcases hy with hy | hy
        · exact a4 y hy hry
        · rw [hy, hrx] at hry; exact absurd hry (by decide)
    | true =>
      have hpos := cnt_pos hxm hrx
      rw [if_pos rfl]
      obtain ⟨k, rfl⟩ : ∃ k', k = k' + 1 := ⟨k - 1, by omega⟩
      have skip : cnt (L.map pr) x.1 < many ∨ (cnt (L.map pr) x.1 = many ∧ lo ≤ x.1) → ∃ lo' hi' m', carillonref08_Most.j1 (k + 1) L many i x.1 (cnt (L.map pr) x.1) true lo hi = some (lo', hi', m') ∧ Inv (L.map pr) L.length m' lo' hi' := by
        intro hc
        unfold carillonref08_Most.j1
        rw [if_pos rfl, wrap_small (i + 1) (by omega) (by omega), show (i : Int) + 1 = ((i + 1 : Nat) : Int) by omega]
        refine most_go L hL n (i + 1) many lo hi k (by omega) (by omega) ?_
        rcases hv with ⟨a1, a2, a3, a4⟩ | ⟨a1, a2, a3, a4, a5, a6⟩
        · omega
        · refine Or.inr ⟨a1, a2, a3, fun y hy hry => ?_, a5, a6⟩
          rw [take_more _ _ hlt2, hx] at hy
          rcases hy with hy | hy
          · exact a4 y hy hry
          · rw [hy]; omega
      have take : many < cnt (L.map pr) x.1 ∨ (cnt (L.map pr) x.1 = many ∧ x.1 < lo) → ∃ lo' hi' m', carillonref08_Most.j1 (k + 1) L many i x.1 (cnt (L.map pr) x.1) false lo hi = some (lo', hi', m') ∧ Inv (L.map pr) L.length m' lo' hi' := by
        intro hc
        unfold carillonref08_Most.j1
        rw [if_neg (by decide)]
        obtain ⟨hi2, hM, he⟩ := inner_go L i x.1 (cnt (L.map pr) x.1) hL L.length 0 1099511627776 k (by omega) (by omega) ⟨fun y hy => by simp at hy, Or.inl rfl⟩
        rw [show ((0 : Nat) : Int) = 0 from rfl] at he
        rw [he, wrap_small (i + 1) (by omega) (by omega), show (i : Int) + 1 = ((i + 1 : Nat) : Int) by omega]
        refine most_go L hL n (i + 1) _ x.1 hi2 _ (by omega) (by omega) ?_
        obtain ⟨hM1, hM2⟩ := hM
        rw [List.take_of_length_le (by simp)] at hM1
        refine Or.inr ⟨hpos, rfl, ⟨x, hxm, hrx, rfl⟩, fun y hy hry => ?_, ?_, hM1⟩
        · rw [take_more _ _ hlt2, hx] at hy
          rcases hv with ⟨a1, a2, a3, a4⟩ | ⟨a1, a2, a3, a4, a5, a6⟩
          · rcases hy with hy | hy
            · rw [a4 y hy] at hry; exact absurd hry (by decide)
            · rw [hy]; omega
          · rcases hy with hy | hy
            · obtain ⟨b1, b2⟩ := a4 y hy hry
              clear a3 a5 hM2
              refine ⟨by omega, fun he => ?_⟩
              have := b2 (by omega)
              omega
            · rw [hy]; exact ⟨Int.le_refl _, fun _ => Int.le_refl _⟩
        · rcases hM2 with h | h
          · have h1 := hM1 x hxm (self_hold hrx)
            have h2 := (rt_iff x).mp hrx
            exact ⟨x, hxm, self_hold hrx, by omega⟩
          · exact h
      by_cases h1 : cnt (L.map pr) x.1 < many
      · rw [if_pos h1]; exact skip (Or.inl h1)
      · rw [if_neg h1]
        by_cases h2 : cnt (L.map pr) x.1 = many
        · rw [if_pos h2]
          by_cases h3 : x.1 ≥ lo
          · rw [decide_eq_true h3]; exact skip (Or.inr ⟨h2, h3⟩)
          · rw [decide_eq_false h3]; exact take (Or.inr ⟨h2, by omega⟩)
        · rw [if_neg h2]; exact take (Or.inl (by omega))
/-- What the reference tells: the same. -/
theorem ref_most (L : List S61) (hL : L.length ≤ 4611686018427387904) (lo hi m : Int) (h : Iv2.Spec (L.map pr) lo hi m) (hm : ∀ v, cnt (L.map pr) v ≤ m) : ∃ k, carillonref08_Most.f k L = some (lo, hi, m) := by
  refine ⟨L.length * (L.length + 4) + L.length + 4, ?_⟩
  obtain ⟨lo', hi', m', he, hv⟩ := most_go L hL L.length 0 0 0 0 _ (by omega) (Nat.le_refl _) (Or.inl ⟨rfl, rfl, rfl, fun x hx => by simp at hx⟩)
  unfold carillonref08_Most.f
  rw [show ((0 : Nat) : Int) = 0 from rfl] at he
  rw [he]
  have hs : Iv2.Spec (L.map pr) lo' hi' m' ∧ ∀ x ∈ L.map pr, rt x = true → cnt (L.map pr) x.1 ≤ m' := by
    rcases hv with ⟨a1, a2, a3, a4⟩ | ⟨a1, a2, a3, a4, a5, a6⟩
    · rw [List.take_of_length_le (by simp)] at a4
      exact ⟨Or.inl ⟨a1, a2, a3, a4⟩, fun x hx hr => by rw [a4 x hx] at hr; exact absurd hr (by decide)⟩
    · rw [List.take_of_length_le (by simp)] at a4
      exact ⟨Or.inr ⟨a1, a2, a3, fun x hx hr => (a4 x hx hr).2, a5, a6⟩, fun x hx hr => (a4 x hx hr).1⟩
  have hmm : m = m' := by
    rcases h with ⟨a1, a2, a3, a4⟩ | ⟨a1, a2, ⟨x, hx, hr, ex⟩, a4, _⟩
    · rcases hs.1 with ⟨b1, b2, b3, b4⟩ | ⟨b1, b2, ⟨y, hy, hry, ey⟩, b4, _⟩
      · omega
      · rw [a4 y hy] at hry; exact absurd hry (by decide)
    · have h1 := hs.2 x hx hr
      rw [ex, ← a2] at h1
      rcases hs.1 with ⟨b1, b2, b3, b4⟩ | ⟨b1, b2, _⟩
      · rw [b4 x hx] at hr; exact absurd hr (by decide)
      · have := hm lo'; omega
  obtain ⟨h1, h2⟩ := spec_unique hs.1 h hmm.symm
  rw [h1, h2, hmm]
end Go.Proofs.Ytfaikkhnlioajaa.Iv3
