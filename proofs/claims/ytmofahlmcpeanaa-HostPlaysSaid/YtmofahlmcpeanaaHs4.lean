/- Rows that begin inside their block: append and cut. -/
import Derived.Test.YtmofahlmcpeanaaProg
import Derived.Below
import Derived.Deep.Draws
import Derived.Deep.AppendLies
import Derived.Maps.AppendAt
import Derived.OwnWalk
import Derived.Laws.BytesArg
import Derived.Laws.MakeOwn
import Derived.Laws.OwnMore
import Derived.Deep.OwnRows
import Derived.Tactics
import Derived.Lib.ConvBytes
import Derived.Laws.Slices
import Derived.WalkKit
import Derived.KernelRfl
import Derived.RowKit3
import Derived.Deep.LoopGhost
import Derived.Deep.QuietTactic
import Derived.BigQuiet
import Derived.WideLaws
import Derived.Deep.DeepCutAuto
import Derived.Deep.CutBlock
import Derived.Deep.RegionHeld3
import Derived.Laws.Rows
import Derived.Lib.AppendStr
import Derived.ArgAppend
import Derived.Laws.IdiomCopy
import Derived.OrdersHeld
import Derived.Laws.BitsLemmas
import Derived.RowKit
import Derived.RegionTactic
import Derived.ChangeAlike
import Derived.Outline
import Derived.LoopTactic
import Derived.WalkSpells
import Derived.WalkLawsBesides
import Derived.Lib.Hide
import Derived.StillTailTactics
import Derived.Deep.RegionWith
import Derived.Deep.RegionLaw
import Derived.Deep.DeepFit
import Derived.Deep.DeepMust
import Derived.Test.YtmofahlmcpeanaaWWords
import Derived.Test.YtmofahlmcpeanaaWLast
import Derived.Test.YtmofahlmcpeanaaWTab
import Derived.Test.YtmofahlmcpeanaaWFour
import Derived.Test.YtmofahlmcpeanaaWQPut
import Derived.Test.YtmofahlmcpeanaaWApart
import Derived.Test.YtmofahlmcpeanaaWArr
import Derived.Test.YtmofahlmcpeanaaWZeros
import Derived.Test.YtmofahlmcpeanaaWFoot
import Derived.Test.YtmofahlmcpeanaaWKept
import Derived.Test.YtmofahlmcpeanaaWShare
import Derived.Test.YtmofahlmcpeanaaWN
import Derived.Test.YtmofahlmcpeanaaWFootNe
import Derived.Test.YtmofahlmcpeanaaWAt
import Derived.Test.YtmofahlmcpeanaaWEqStruct
import Derived.Test.YtmofahlmcpeanaaWRepsOne
import Derived.Test.YtmofahlmcpeanaaWInv
import Derived.Test.YtmofahlmcpeanaaWInvWords
import Derived.Test.YtmofahlmcpeanaaWGuard
import Derived.Test.YtmofahlmcpeanaaWNEv
import Derived.Test.YtmofahlmcpeanaaWMore
import Derived.Test.YtmofahlmcpeanaaHs3
import Derived.Deep.AppendSrc
namespace Go.Proofs.Ytmofahlmcpeanaa.Hs4
open Go.RowKit Go.Proofs.YtmofahlmcpeanaaW.PrintWords Go.Proofs.YtmofahlmcpeanaaW.PrintLast Go.Proofs.YtmofahlmcpeanaaW.PrintMore 
attribute [local go_sem] max2_int min2_int max_two min_two max_three min_three max_four min_four
set_option linter.unusedVariables false
set_option linter.unusedSimpArgs false
open Go.Joins Go.Proofs.Ytmofahlmcpeanaa.Hs1 Go.Proofs.Ytmofahlmcpeanaa.Hs2 Go.Proofs.Ytmofahlmcpeanaa.Hs3

/-- A row of one's own that may begin inside its block: what a slice cut at its head is. -/
def RowAt (w : World) (base : Nat) (e : TypeId) (size : Nat) (A : Option Addr) (n cap : Nat) (xs : List Value) : Prop :=
  xs.length = n * size ∧ ((A = none ∧ n = 0 ∧ cap = 0) ∨ ∃ g off cur, A = some ⟨g, off, none⟩ ∧ base ≤ g ∧ w.heap[g]? = some (.cells cur e (0, 0)) ∧ n ≤ cap ∧ cap ≤ maxLen ∧ off + cap * size ≤ cur.size ∧ (cur.toList.drop off).take (n * size) = xs)
section
variable {w : World} {base : Nat} {e : TypeId} {size : Nat} {A : Option Addr} {n cap : Nat} {xs : List Value}
theorem RowAt.nil (w : World) (base : Nat) (e : TypeId) (size : Nat) : RowAt w base e size none 0 0 [] := ⟨by simp, Or.inl ⟨rfl, rfl, rfl⟩⟩
theorem RowAt.len (h : RowAt w base e size A n cap xs) : n ≤ cap ∧ cap ≤ maxLen := by
  rcases h.2 with ⟨_, h1, h2⟩ | ⟨g, off, cur, _, _, _, h1, h2, _, _⟩
  · subst h1; subst h2; exact ⟨Nat.le_refl _, Nat.zero_le _⟩
  · exact ⟨h1, h2⟩
theorem RowAt.lt (h : RowAt w base e size A n cap xs) (g : Nat) (hg : A.map (·.block) = some g) : base ≤ g ∧ g < w.heap.size := by
  rcases h.2 with ⟨h1, _, _⟩ | ⟨g', off, cur, h1, h2, h3, _⟩
  · subst h1; cases hg
  · subst h1; cases hg; exact ⟨h2, blk_lt h3⟩
theorem RowAt.off (h : RowAt w base e size A n cap xs) {g : Nat} {cs : Array Value} {t : TypeId} {fr : Nat × Nat} (hg : w.heap[g]? = some (.cells cs t fr)) (ht : t ≠ e) : A.map (·.block) ≠ some g := by
  rcases h.2 with ⟨h1, _, _⟩ | ⟨g', off, cur, h1, h2, h3, _⟩
  · subst h1; intro e; cases e
  · subst h1
    intro e1
    cases e1
    rw [hg] at h3
    cases h3
    exact ht rfl
theorem RowAt.mono {b2 : Nat} (h : RowAt w base e size A n cap xs) (hb : b2 ≤ base) : RowAt w b2 e size A n cap xs := by
  refine ⟨h.1, ?_⟩
  rcases h.2 with h1 | ⟨g, off, cur, h1, h2, h3⟩
  · exact Or.inl h1
  · exact Or.inr ⟨g, off, cur, h1, by omega, h3⟩
theorem RowAt.upd {S : Nat → Prop} {w' : World} (h : RowAt w base e size A n cap xs) (hU : Upd S w w') (hS : ∀ g, A.map (·.block) = some g → ¬ S g) : RowAt w' base e size A n cap xs := by
  refine ⟨h.1, ?_⟩
  rcases h.2 with h1 | ⟨g, off, cur, h1, h2, h3, h4⟩
  · exact Or.inl h1
  · subst h1
    exact Or.inr ⟨g, off, cur, rfl, h2, hU.far h3 (hS g rfl), h4⟩
theorem RowAt.cell (h : RowAt w base e size A n cap xs) (j : Nat) (hj : j < xs.length) : ∃ g off, A = some ⟨g, off, none⟩ ∧ w.cell? ⟨g, off + j, none⟩ = some xs[j] := by
  rcases h.2 with ⟨_, h1, _⟩ | ⟨g, off, cur, h1, h2, h3, h4, h5, h6, h7⟩
  · have := h.1; subst h1; omega
  · refine ⟨g, off, h1, ?_⟩
    rw [cell_of_row w g (off + j) cur e (0, 0) h3]
    have hj2 := hj
    rw [h.1] at hj2
    have h8 : xs[j]? = some xs[j] := List.getElem?_eq_getElem hj
    rw [← h8, ← h7, List.getElem?_take_of_lt hj2, List.getElem?_drop]
    simp
theorem RowAt.tail {u : List Value} (h : RowAt w base e size A n cap (u ++ xs)) (hu : u.length = size) (hn : 1 ≤ n) : ∃ A', sliced A 1 n cap size = .slice A' (n - 1) (cap - 1) ∧ RowAt w base e size A' (n - 1) (cap - 1) xs ∧ A'.map (·.block) = A.map (·.block) := by
  have hl := h.1
  rw [List.length_append, hu] at hl
  have hl2 : xs.length = (n - 1) * size := by rw [Nat.sub_mul, Nat.one_mul]; omega
  rcases h.2 with ⟨_, h1, _⟩ | ⟨g, off, cur, h1, h2, h3, h4, h5, h6, h7⟩
  · omega
  · subst h1
    unfold sliced
    by_cases hc : cap = 1
    · subst hc
      obtain rfl : n = 1 := by omega
      have hx : xs = [] := List.eq_nil_of_length_eq_zero (by simpa using hl2)
      subst hx
      exact ⟨some ⟨g, off, none⟩, by rw [if_pos rfl], ⟨by simp, Or.inr ⟨g, off, cur, rfl, h2, h3, by omega, by omega, by omega, by simp⟩⟩, rfl⟩
    · refine ⟨some ⟨g, off + size, none⟩, ?_, ⟨hl2, Or.inr ⟨g, off + size, cur, rfl, h2, h3, by omega, by omega, ?_, ?_⟩⟩, rfl⟩
      · rw [if_neg hc, Nat.one_mul]
        by_cases hs : size = 0
        · subst hs; rfl
        · rw [Option.map_some, Addr.add_lit]
      · have : cap * size = (cap - 1) * size + size := by rw [Nat.sub_mul, Nat.one_mul]; have : size ≤ cap * size := Nat.le_mul_of_pos_left _ (by omega); omega
        omega
      · have h8 : ((cur.toList.drop off).take (n * size)).drop size = xs := by rw [h7, ← hu]; exact List.drop_left
        rw [← h8, List.drop_take, List.drop_drop, Nat.sub_mul, Nat.one_mul]
end
theorem run_append_room_at {P : Program} {w : World} {t tx ty e : TypeId} {i : TypeInfo} (ht : P.underlying t = some (.slice e)) (hi : P.info? e = some i) (g off sLen sCap : Nat) (cur : Array Value) (hg : w.heap[g]? = some (.cells cur e (0, 0)))
    (x : Value) (m : Nat) (news : List Value) (hs : Src P i.size tx x m news w) (hroom : sLen + m ≤ sCap) (hfit : off + sLen * i.size + news.length ≤ cur.size) :
    (Builtin.append_ #[t, tx] ty #[.slice (some ⟨g, off, none⟩) sLen sCap, x]).run P w =
      .ok (.slice (some ⟨g, off, none⟩) (sLen + m) sCap) (w.setRow g (cur.toList.take (off + sLen * i.size) ++ news ++ cur.toList.drop (off + sLen * i.size + news.length)).toArray) := by
  have hst := run_storeCells_at P g (off + sLen * i.size) e news 0 cur w hg (by simpa using hfit) hs.one
  simp only [Nat.add_zero] at hst
  rcases hs.kind with ⟨e', hk⟩ | hk <;> simp [Builtin.append_, run_underlying ht, run_underlying hk, sizeOf, typeInfo, hi, hs.len, hroom, hs.cells, Addr.add_lit, hst]
theorem run_append_at {P : Program} {w : World} {base : Nat} {t tx ty e : TypeId} {i : TypeInfo} {z : Value} {size bytes : Nat} (ht : P.underlying t = some (.slice e)) (hi : P.info? e = some i) (hz : i.zero = some z)
    (hsize : i.size = size) (hby : i.bytes = bytes) (hzs : z.cells.size = size) {A : Option Addr} {n cap : Nat} {xs : List Value} (hown : RowAt w base e size A n cap xs)
    {x : Value} {m : Nat} {news : List Value} (hs : Src P size tx x m news w) (h63 : n + m ≤ maxLen) (hbytes : (n + m) * bytes ≤ 140737488355328) (hbase : base ≤ w.heap.size) :
    ∃ A' cap' w', (Builtin.append_ #[t, tx] ty #[.slice A n cap, x]).run P w = .ok (.slice A' (n + m) cap') w' ∧ RowAt w' base e size A' (n + m) cap' (xs ++ news) ∧ w.grownBy w' (A.map (·.block)) ∧ (A'.map (·.block) = A.map (·.block) ∨ A'.map (·.block) = some w.heap.size) := by
  subst hsize
  subst hby
  have hl : (xs ++ news).length = (n + m) * i.size := by rw [List.length_append, hown.1, hs.newsLen, Nat.add_mul]
  have grown : cap < n + m → (Builtin.firstCells i.size n (.slice A n cap)).run P w.drew = .ok xs.toArray w.drew → ∃ A' cap' w', (Builtin.append_ #[t, tx] ty #[.slice A n cap, x]).run P w = .ok (.slice A' (n + m) cap') w' ∧ RowAt w' base e i.size A' (n + m) cap' (xs ++ news) ∧ w.grownBy w' (A.map (·.block)) ∧ (A'.map (·.block) = A.map (·.block) ∨ A'.map (·.block) = some w.heap.size) := by
    intro hg hf
    have hr := run_append_grow_src (P := P) w t tx ty e i z ht hi hz A n cap xs hf x m news hs hg (by simp only [maxLen] at h63; omega) (growslice_fits (by omega) hbytes)
    refine ⟨_, _, _, hr, ⟨hl, Or.inr ⟨w.heap.size, 0, _, rfl, hbase, heap_alloc_new w.drew _, grownCap_ge w (n + m) cap e, grownCap_le_maxLen w (n + m) cap e h63, ?_, ?_⟩⟩, ⟨rfl, rfl, rfl, by simp, fun k hk _ => heap_alloc_old w.drew _ hk⟩, Or.inr rfl⟩
    · have hge := grownCap_ge w (n + m) cap e
      rw [Array.size_append, List.size_toArray, size_zeroCells, hzs, hl, Nat.zero_add, ← Nat.add_mul]
      exact Nat.mul_le_mul_right _ (by omega)
    · rw [List.drop_zero, Array.toList_append, ← hl]
      exact List.take_left
  rcases hown.2 with ⟨h1, h2, h3⟩ | ⟨g, off, cur, h1, h2, h3, h4, h5, h6, h7⟩
  · subst h1; subst h2; subst h3
    have hx : xs = [] := List.eq_nil_of_length_eq_zero (by simpa using hown.1)
    subst hx
    by_cases hm : m = 0
    · subst hm
      have hn : news = [] := List.eq_nil_of_length_eq_zero (by simpa using hs.newsLen)
      subst hn
      refine ⟨none, 0, w, ?_, RowAt.nil w base e i.size, ⟨rfl, rfl, rfl, Nat.le_refl _, fun _ _ _ => rfl⟩, Or.inl rfl⟩
      rcases hs.kind with ⟨e', hk⟩ | hk <;> simp [Builtin.append_, run_underlying ht, run_underlying hk, sizeOf, typeInfo, hi, hs.len, hs.cells, storeCells]
    · exact grown (by omega) (run_firstCells_none w.drew i.size 0 0 0)
  · subst h1
    by_cases hroom : n + m ≤ cap
    · have hfit : off + n * i.size + news.length ≤ cur.size := by
        have : (n + m) * i.size ≤ cap * i.size := Nat.mul_le_mul_right _ hroom
        rw [Nat.add_mul, ← hs.newsLen] at this
        omega
      have hr := run_append_room_at (ty := ty) ht hi g off n cap cur h3 x m news hs hroom hfit
      refine ⟨_, _, _, hr, ⟨hl, Or.inr ⟨g, off, _, rfl, h2, setRow_heap w g cur _ e _ h3, hroom, h5, ?_, ?_⟩⟩, ⟨rfl, rfl, rfl, by simp, fun k _ hk => setRow_other w g k _ (fun e => hk (by rw [e]; rfl))⟩, Or.inl rfl⟩
      · simp only [List.size_toArray, List.length_append, List.length_take, List.length_drop, Array.length_toList]
        omega
      · have h8 : cur.toList.length = cur.size := Array.length_toList
        show ((cur.toList.take (off + n * i.size) ++ news ++ cur.toList.drop (off + n * i.size + news.length)).drop off).take ((n + m) * i.size) = xs ++ news
        rw [List.append_assoc, List.drop_append_of_le_length (by rw [List.length_take]; omega), List.drop_take, show off + n * i.size - off = n * i.size by omega, h7, ← List.append_assoc, ← hl]
        exact List.take_left
    · refine grown (by omega) (run_firstCells_some w.drew i.size n _ n cap xs hown.1 fun j u hu => ?_)
      have hj : j < xs.length := by
        rcases Nat.lt_or_ge j xs.length with h | h
        · exact h
        · rw [List.getElem?_eq_none h] at hu; cases hu
      obtain ⟨g', off', e1, e2⟩ := RowAt.cell hown j hj
      cases e1
      rw [List.getElem?_eq_getElem hj] at hu
      rw [← hu, Addr.add_lit]
      exact e2
theorem wpList_append_at {P : Program} {w : World} {ops : Array Oper} {rest : List Oper} {o : Oper} {a : Act} {Q : Exit → Act → World → Prop} (hgd : o.guard = none) (s x : Operand) (t tx : TypeId)
    (ho : o.op = .call { callee := .builtin .append, args := #[s, x], argTypes := #[t, tx] }) (base : Nat) (e : TypeId) (i : TypeInfo) (z : Value) (size bytes : Nat) (ht : P.underlying t = some (.slice e)) (hi : P.info? e = some i) (hz : i.zero = some z)
    (hsize : i.size = size) (hby : i.bytes = bytes) (hzs : z.cells.size = size) (A : Option Addr) (n cap : Nat) (xs : List Value) (hv : a.eval s = .slice A n cap) (hown : RowAt w base e size A n cap xs)
    (xv : Value) (m : Nat) (news : List Value) (hx : a.eval x = xv) (hs : Src P size tx xv m news w) (h63 : n + m ≤ maxLen) (hbytes : (n + m) * bytes ≤ 140737488355328) (hbase : base ≤ w.heap.size)
    (h : ∀ A' cap' w', RowAt w' base e size A' (n + m) cap' (xs ++ news) → w.grownBy w' (A.map (·.block)) → (A'.map (·.block) = A.map (·.block) ∨ A'.map (·.block) = some w.heap.size) → wpList P ops Q rest (a.put o.dst (.slice A' (n + m) cap')) w') : wpList P ops Q (o :: rest) a w := by
  refine wpList_plain hgd fun K hK => ?_
  obtain ⟨A', cap', w', hr, h2, h3, h4⟩ := run_append_at (ty := o.type) ht hi hz hsize hby hzs hown hs h63 hbytes hbase
  unfold Oper.wp execOp
  simp only [ho, resolve, invoke, builtin, Sem.run_bind, Sem.run_pure, Result.andThen_ok, List.map_toArray, List.map_cons, List.map_nil, hv, hx, hr]
  exact hK _ _ (h A' cap' w' h2 h3 h4)
end Go.Proofs.Ytmofahlmcpeanaa.Hs4
