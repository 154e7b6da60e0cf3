/- A host: what was released. -/
import Derived.Test.YtmofahlmcpeanaaProg
import Derived.Below
import Derived.Deep.Draws
import Derived.Deep.AppendLies
import Derived.Maps.AppendAt
import Derived.OwnWalk
import Derived.Laws.BytesArg
import Derived.Laws.MakeOwn
import Derived.Laws.OwnMore
import Derived.Deep.OwnRows
import Derived.Tactics
import Derived.Lib.ConvBytes
import Derived.Laws.Slices
import Derived.WalkKit
import Derived.KernelRfl
import Derived.RowKit3
import Derived.Deep.LoopGhost
import Derived.Deep.QuietTactic
import Derived.BigQuiet
import Derived.WideLaws
import Derived.Deep.DeepCutAuto
import Derived.Deep.CutBlock
import Derived.Deep.RegionHeld3
import Derived.Laws.Rows
import Derived.Lib.AppendStr
import Derived.ArgAppend
import Derived.Laws.IdiomCopy
import Derived.OrdersHeld
import Derived.Laws.BitsLemmas
import Derived.RowKit
import Derived.RegionTactic
import Derived.ChangeAlike
import Derived.Outline
import Derived.LoopTactic
import Derived.WalkSpells
import Derived.WalkLawsBesides
import Derived.Lib.Hide
import Derived.StillTailTactics
import Derived.Deep.RegionWith
import Derived.Deep.RegionLaw
import Derived.Deep.DeepFit
import Derived.Deep.DeepMust
import Derived.Test.YtmofahlmcpeanaaWWords
import Derived.Test.YtmofahlmcpeanaaWLast
import Derived.Test.YtmofahlmcpeanaaWTab
import Derived.Test.YtmofahlmcpeanaaWFour
import Derived.Test.YtmofahlmcpeanaaWQPut
import Derived.Test.YtmofahlmcpeanaaWApart
import Derived.Test.YtmofahlmcpeanaaWArr
import Derived.Test.YtmofahlmcpeanaaWZeros
import Derived.Test.YtmofahlmcpeanaaWFoot
import Derived.Test.YtmofahlmcpeanaaWKept
import Derived.Test.YtmofahlmcpeanaaWShare
import Derived.Test.YtmofahlmcpeanaaWN
import Derived.Test.YtmofahlmcpeanaaWFootNe
import Derived.Test.YtmofahlmcpeanaaWAt
import Derived.Test.YtmofahlmcpeanaaWEqStruct
import Derived.Test.YtmofahlmcpeanaaWRepsOne
import Derived.Test.YtmofahlmcpeanaaWInv
import Derived.Test.YtmofahlmcpeanaaWInvWords
import Derived.Test.YtmofahlmcpeanaaWGuard
import Derived.Test.YtmofahlmcpeanaaWNEv
import Derived.Test.YtmofahlmcpeanaaWMore
import Derived.Test.YtmofahlmcpeanaaHs4
import Derived.OrdersHeld
import Derived.StillTail
import Derived.Deep.RegionHeld
namespace Go.Proofs.Ytmofahlmcpeanaa.Hs5
open Go.RowKit Go.Proofs.YtmofahlmcpeanaaW.PrintWords Go.Proofs.YtmofahlmcpeanaaW.PrintLast Go.Proofs.YtmofahlmcpeanaaW.PrintMore 
attribute [local go_sem] max2_int min2_int max_two min_two max_three min_three max_four min_four
set_option linter.unusedVariables false
set_option linter.unusedSimpArgs false

section
variable {P : Program} {ops : Array Oper} {Q : Exit → Act → World → Prop} {md : Region.Mode} {S : World → Prop} {m : Nat}
/-- Whatever order is picked from here on; S holds behind every operation whose number is below m. -/
def wpAnyN (P : Program) (md : Region.Mode) (ops : Array Oper) (Q : Exit → Act → World → Prop) (S : World → Prop) (m : Nat) : Nat → Array Bool → Act → World → Prop
  | 0, listed, a, w => Region.ready md ops listed = [] ∧ Q .normal a w
  | fuel + 1, listed, a, w => (Region.ready md ops listed = [] → Q .normal a w) ∧ ∀ i ∈ Region.ready md ops listed, wpOp P ops Q i (fun a' w' => (i < m → S w') ∧ wpAnyN P md ops Q S m fuel (listed.setIfInBounds i true) a' w') a w
theorem any_of_N : ∀ (fuel : Nat) (listed : Array Bool) (a : Act) (w : World), wpAnyN P md ops Q S m fuel listed a w → wpAny P md ops Q fuel listed a w
  | 0, _, _, _, h => h
  | fuel + 1, _, _, _, h => ⟨h.1, fun i hi => wpOp_mono (fun a' w' h' => any_of_N fuel _ a' w' h'.2) (h.2 i hi)⟩
/-- Every operation from number m on waits for number i. -/
def lateB (md : Region.Mode) (ops : Array Oper) (m i : Nat) : Bool := (List.range ops.size).all fun j => decide (j < m) || Region.waitsFor md ops j i
theorem late_not {i j : Nat} {listed : Array Bool} (hl : lateB md ops m i = true) (hi : listed.getD i true = false) (hj : j ∈ Region.ready md ops listed) : j < m := by
  rcases Nat.lt_or_ge j m with h | h
  · exact h
  · exfalso
    obtain ⟨_, oj, hoj, hall⟩ := mem_ready.1 hj
    have hjl : j < ops.size := (Array.getElem?_eq_some_iff.1 hoj).1
    have h1 := List.all_eq_true.1 hl j (List.mem_range.2 hjl)
    simp only [Bool.or_eq_true, decide_eq_true_eq] at h1
    rcases h1 with h1 | h1
    · omega
    · obtain ⟨o', ho', e, he, hb, hon⟩ := Region.waitsFor_spec h1
      have : o' = oj := Option.some.inj (ho'.symm.trans hoj)
      subst this
      have h2 := hall e he hb
      rw [hon, getD_both hi] at h2
      cases h2
theorem firstN {i : Nat} {oi : Oper} {v : Value} (hi : ops[i]? = some oi) (hsel : ∀ (j : Nat) (o : Oper) cs b, ops[j]? = some o → o.op ≠ .select cs b) (hl : lateB md ops m i = true)
    (hQ : ∀ c a w, Q (.panic c) (a.put oi.dst v) w → Q (.panic c) a w) : ∀ (fuel : Nat) (listed : Array Bool) (a : Act) (w : World),
      (∀ j oj, ops[j]? = some oj → j ≠ i → listed.getD j true = false → (∀ e ∈ oj.after, Region.binds md e = true → e.on ≠ i) → oi.apart ops oj = true) →
      i ∈ Region.ready md ops listed → YieldsIf P ops S oi v a → S w → wpAnyN P md ops Q S m fuel (listed.setIfInBounds i true) (a.put oi.dst v) w → wpAnyN P md ops Q S m (fuel + 1) listed a w := by
  intro fuel
  induction fuel with
  | zero =>
    intro listed a w _ hr hy hS H
    refine ⟨fun h => (by rw [h] at hr; cases hr), fun j hj => ?_⟩
    by_cases hji : j = i
    · subst hji
      exact hy.wpOp hi hS ⟨fun _ => hS, H⟩
    · have hm := ready_mono hj hji
      rw [H.1] at hm
      cases hm
  | succ fuel ih =>
    intro listed a w hfree hr hy hS H
    have hun := (mem_ready.1 hr).1
    refine ⟨fun h => (by rw [h] at hr; cases hr), fun j hj => ?_⟩
    by_cases hji : j = i
    · subst hji
      exact hy.wpOp hi hS ⟨fun _ => hS, H⟩
    · have hjm := late_not hl hun hj
      have h1 := H.2 j (ready_mono hj hji)
      obtain ⟨hjun, oj, hoj, hall⟩ := mem_ready.1 hj
      have hnot : ∀ e ∈ oj.after, Region.binds md e = true → e.on ≠ i := fun e he hb heq => by
        have h2 := hall e he hb
        rw [heq, getD_both hun] at h2
        cases h2
      have h2 := wpOp_putIf hoj (hfree j oj hoj hji hjun hnot) (fun cs b => hsel i oi cs b hi) (fun cs b => hsel j oj cs b hoj) hQ hy h1
      refine wpOp_mono (fun a' w' h3 => ⟨fun _ => h3.2.1 hjm, ih (listed.setIfInBounds j true) a' w' (fun k ok hk hki hku hno => hfree k ok hk hki ?_ hno) (ready_mono hr (Ne.symm hji)) h3.1 (h3.2.1 hjm) ?_⟩) h2
      · by_cases hjk : j = k
        · subst hjk; exact hjun
        · rw [getD_set_ne true hjk] at hku; exact hku
      · rw [Array.setIfInBounds_comm _ _ hji]
        exact h3.2.2
theorem takeN {i : Nat} {oi : Oper} {v : Value} {fuel : Nat} {listed : Array Bool} {a : Act} {w : World} (hi : ops[i]? = some oi)
    (hs : Region.noSelect ops = true) (hl : lateB md ops m i = true) (hf : Region.free md ops listed i = true) (hr : (Region.ready md ops listed).contains i = true)
    (hQ : ∀ c a w, Q (.panic c) (a.put oi.dst v) w → Q (.panic c) a w) (hy : YieldsIf P ops S oi v a) (hS : S w)
    (h : wpAnyN P md ops Q S m fuel (listed.setIfInBounds i true) (a.put oi.dst v) w) : wpAnyN P md ops Q S m (fuel + 1) listed a w :=
  firstN hi (Region.noSelect_spec hs) hl hQ fuel listed a w (Region.free_spec hi hf) (by simpa using hr) hy hS h
theorem oneN {i : Nat} {o : Oper} {fuel : Nat} {listed : Array Bool} {a : Act} {w : World} (hr : Region.ready md ops listed = [i]) (ho : ops[i]? = some o)
    (h : ∀ K' : Act → World → Prop, (∀ a w, (i < m → S w) → wpAnyN P md ops Q S m fuel (listed.setIfInBounds i true) a w → K' a w) → if Region.wanted o (yielded ops a.tmps) = true then Oper.wp P o a w K' Q else K' (a.put o.dst undef) w) : wpAnyN P md ops Q S m (fuel + 1) listed a w := by
  refine ⟨fun h0 => (by rw [hr] at h0; cases h0), fun j hj => ?_⟩
  rw [hr] at hj
  obtain rfl : j = i := by simpa using hj
  exact wpOp_step ho (fun K' hK => h K' (fun a w hS hW => hK a w ⟨hS, hW⟩))
theorem tailN : ∀ (l : List Oper) (k : Nat) (listed : Array Bool) (a : Act) (w : World), m ≤ k → (∀ j, l[j]? = ops[k + j]?) → Region.seqB md ops l.length k listed = true → wpList P ops Q l a w → wpAnyN P md ops Q S m l.length listed a w
  | [], _, _, _, _, _, _, hB, h => ⟨by simpa [Region.seqB] using hB, h⟩
  | o :: l, k, listed, a, w, hmk, hl, hB, h => by
    have h0 : ops[k]? = some o := by simpa using (hl 0).symm
    simp only [List.length_cons, Region.seqB, Bool.and_eq_true, decide_eq_true_eq] at hB
    refine ⟨fun h1 => (by rw [hB.1] at h1; cases h1), fun i hi => ?_⟩
    rw [hB.1] at hi
    obtain rfl : i = k := by simpa using hi
    have hw : wpOp P ops Q i (wpList P ops Q l) a w := by unfold wpOp; simp only [h0]; exact h
    exact wpOp_mono (fun a' w' h' => ⟨fun hlt => absurd hlt (by omega), tailN l (i + 1) _ a' w' (by omega) (fun j => by have := hl (j + 1); simpa [Nat.add_assoc, Nat.add_comm 1 j] using this) hB.2 h'⟩) hw
theorem tailN2 {l : List Oper} {f : Nat} {listed : Array Bool} {a : Act} {w : World} (n : Nat) (hf : f = l.length - n) (hm : m ≤ n) (hn : n ≤ l.length) (hB : Region.seqB md l.toArray f n listed = true) (h : wpList P l.toArray Q (l.drop n) a w) : wpAnyN P md l.toArray Q S m f listed a w := by
  have hl : (l.drop n).length = f := by rw [List.length_drop, hf]
  have := tailN (S := S) (m := m) (md := md) (ops := l.toArray) (P := P) (Q := Q) (l.drop n) n listed a w hm (fun j => by simp [List.getElem?_drop]) (by rw [hl]; exact hB) h
  rw [hl] at this
  exact this
theorem region_N {id : Nat} {a : Act} {w : World} (S : World → Prop) (m : Nat) (hm : P.follows .mixedOrders = true) (hS : S w.drew) (h : S w.drew → wpAnyN P .any ops Q S m ops.size (Array.replicate ops.size false) a w.drew) : (Code.region id ops true).wp P Q a w :=
  wp_region_any hm (any_of_N _ _ _ _ (h hS))
end
open Go.Joins Go.Proofs.Ytmofahlmcpeanaa.Hs1 Go.Proofs.Ytmofahlmcpeanaa.Hs2 Go.Proofs.Ytmofahlmcpeanaa.Hs3 Go.Proofs.Ytmofahlmcpeanaa.Hs4

theorem step_append_at {P : Program} {w : World} {ops : Array Oper} {o : Oper} {a : Act} {K : Act → World → Prop} {Q : Exit → Act → World → Prop} {E : Prop} (hgd : o.guard = none) (s x : Operand) (t tx : TypeId)
    (ho : o.op = .call { callee := .builtin .append, args := #[s, x], argTypes := #[t, tx] }) (base : Nat) (e : TypeId) (i : TypeInfo) (z : Value) (size bytes : Nat) (ht : P.underlying t = some (.slice e)) (hi : P.info? e = some i) (hz : i.zero = some z)
    (hsize : i.size = size) (hby : i.bytes = bytes) (hzs : z.cells.size = size) (A : Option Addr) (n cap : Nat) (xs : List Value) (hv : a.eval s = .slice A n cap) (hown : RowAt w base e size A n cap xs)
    (xv : Value) (m : Nat) (news : List Value) (hx : a.eval x = xv) (hs : Src P size tx xv m news w) (h63 : n + m ≤ maxLen) (hbytes : (n + m) * bytes ≤ 140737488355328) (hbase : base ≤ w.heap.size)
    (h : ∀ A' cap' w', RowAt w' base e size A' (n + m) cap' (xs ++ news) → w.grownBy w' (A.map (·.block)) → (A'.map (·.block) = A.map (·.block) ∨ A'.map (·.block) = some w.heap.size) → K (a.put o.dst (.slice A' (n + m) cap')) w') :
    if Region.wanted o (yielded ops a.tmps) = true then Oper.wp P o a w K Q else E := by
  have hw : Region.wanted o (yielded ops a.tmps) = true := by simp [Region.wanted, hgd]
  rw [if_pos hw]
  obtain ⟨A', cap', w', hr, h2, h3, h4⟩ := run_append_at (ty := o.type) ht hi hz hsize hby hzs hown hs h63 hbytes hbase
  unfold Oper.wp
  simp [execOp, ho, resolve, invoke, builtin, hv, hx, hr, Result.andThen]
  exact h A' cap' w' h2 h3 h4
theorem twoN {P : Program} {ops : Array Oper} {Q : Exit → Act → World → Prop} {md : Region.Mode} {S : World → Prop} {m : Nat} {i j : Nat} {o o' : Oper} {fuel : Nat} {listed : Array Bool} {a : Act} {w : World} (hr : Region.ready md ops listed = [i, j]) (ho : ops[i]? = some o) (ho' : ops[j]? = some o')
    (h : ∀ K' : Act → World → Prop, (∀ a w, (i < m → S w) → wpAnyN P md ops Q S m fuel (listed.setIfInBounds i true) a w → K' a w) → if Region.wanted o (yielded ops a.tmps) = true then Oper.wp P o a w K' Q else K' (a.put o.dst undef) w)
    (h' : ∀ K' : Act → World → Prop, (∀ a w, (j < m → S w) → wpAnyN P md ops Q S m fuel (listed.setIfInBounds j true) a w → K' a w) → if Region.wanted o' (yielded ops a.tmps) = true then Oper.wp P o' a w K' Q else K' (a.put o'.dst undef) w) : wpAnyN P md ops Q S m (fuel + 1) listed a w := by
  refine ⟨fun h0 => (by rw [hr] at h0; cases h0), fun k hk => ?_⟩
  rw [hr] at hk
  rcases List.mem_cons.1 hk with rfl | hk
  · exact wpOp_step ho (fun K' hK => h K' (fun a w hS hW => hK a w ⟨hS, hW⟩))
  · obtain rfl : k = j := by simpa using hk
    exact wpOp_step ho' (fun K' hK => h' K' (fun a w hS hW => hK a w ⟨hS, hW⟩))
theorem info43 : (Try.prog.info? 43).map (fun i => (i.zero, i.size, i.bytes)) = some (some (.agg #[.int .i64 0, .int .i64 0, .slice none 0 0]), 3, 40) := by kernel_rfl
theorem info29 : (Try.prog.info? 29).map (fun i => (i.zero, i.size, i.bytes)) = some (some (.slice none 0 0), 1, 24) := by kernel_rfl
theorem cell_bel {w w' : World} (hb : Below w.heap.size w w') {a : Addr} {v : Value} (h : w.cell? a = some v) : w'.cell? a = some v := (hb.cell (World.block_lt_of_cell? w _ h)).trans h
theorem grownBy_setC (w : World) (p : Addr) (u : Value) : w.grownBy (w.setCell p u) (some p.block) := ⟨rfl, rfl, rfl, by simp, fun j hj hne => Below.heap_setCell w p u j (fun e => hne (by rw [e]))⟩
theorem cells_new (w : World) (cs : Array Value) (t : TypeId) (j : Nat) (u : Value) (h : cs.toList[j]? = some u) : (w.alloc (.cells cs t (0, 0))).cell? ((⟨w.heap.size, 0, none⟩ : Addr).add j) = some u := by
  have := blk_cell (blk_new w (.cells cs t (0, 0))) j
  rw [show ((⟨w.heap.size, 0, none⟩ : Addr).add j) = ⟨w.heap.size, j, none⟩ by simp [Addr.add] <;> omega, this]
  simpa using h
theorem C_cells2 {w : World} {ad : Addr} {b : List Int} (h : Kd.C (Kd.int .u8) w (some ad) b.length b) : ∀ j v, (b.map (Value.int .u8))[j]? = some v → w.cell? (ad.add j) = some v := by
  intro j v hj
  by_cases hp : 0 < b.length
  · obtain ⟨ad', e, hc⟩ := C_cells h hp
    cases e
    exact hc j v hj
  · have : b = [] := List.eq_nil_of_length_eq_zero (by omega)
    subst this
    cases hj
theorem one_cells (s : List Int) : ∀ u ∈ s.map (Value.int .u8), u.oneCell' = true := by
  intro u hu
  obtain ⟨y, _, rfl⟩ := List.mem_map.1 hu
  rfl
theorem C_nil {w : World} {b : List Int} (h : Kd.C (Kd.int .u8) w none b.length b) : b = [] := by
  cases b with
  | nil => rfl
  | cons y s => obtain ⟨ad, e, _⟩ := C_cells h (by simp); cases e
/-- What a byte slice gives to an append. -/
theorem src_bytes {w : World} {A : Option Addr} {b : List Int} (c : Nat) (h : Kd.C (Kd.int .u8) w A b.length b) : Src Try.prog 1 29 (.slice A b.length c) b.length (b.map (Value.int .u8)) w := by
  cases A with
  | none =>
    have hb := C_nil h
    subst hb
    exact Src.ofNil w Try.underlying29 c
  | some ad => exact Src.ofSlice w Try.underlying29 ad b.length c _ (by simp) (C_cells2 h) (one_cells b)
theorem src_row {w : World} {t e : TypeId} {size n cap base : Nat} {A : Option Addr} {xs : List Value} (ht : Try.prog.underlying t = some (.slice e)) (h : RowAt w base e size A n cap xs) (h1 : ∀ u ∈ xs, u.oneCell' = true) : Src Try.prog size t (.slice A n cap) n xs w := by
  cases A with
  | none =>
    rcases h.2 with ⟨_, h2, h3⟩ | ⟨g, off, cur, h2, _⟩
    · subst h2; subst h3
      have hx : xs = [] := List.eq_nil_of_length_eq_zero (by simpa using h.1)
      subst hx
      exact Src.ofNil w ht 0
    · cases h2
  | some ad =>
    refine Src.ofSlice w ht ad n cap xs h.1 (fun j u hu => ?_) h1
    have hj : j < xs.length := by
      rcases Nat.lt_or_ge j xs.length with k | k
      · exact k
      · rw [List.getElem?_eq_none k] at hu; cases hu
    obtain ⟨g', off', e1, e2⟩ := h.cell j hj
    cases e1
    rw [List.getElem?_eq_getElem hj] at hu
    rw [← hu, Addr.add_lit]
    exact e2
theorem row_C {w : World} {base cap : Nat} {A : Option Addr} {x : List Int} (h : RowAt w base 5 1 A x.length cap (x.map (Value.int .u8))) : Kd.C (Kd.int .u8) w A x.length x := by
  refine Kd.C_of_reads (d := (0 : Int)) (h1 := fun _ => rfl) ⟨rfl, Nat.le_trans h.len.1 h.len.2, fun hp => ?_⟩
  obtain ⟨g, off, e, _⟩ := h.cell 0 (by simpa using hp)
  subst e
  refine ⟨_, rfl, fun j hj => ?_⟩
  obtain ⟨g', off', e1, e2⟩ := h.cell j (by simpa using hj)
  cases e1
  rw [Addr.add_lit, e2, List.getElem_map, List.getD_eq_getElem?_getD, List.getElem?_eq_getElem hj]
  rfl
abbrev Pt := (Int × Int × List Int) × Value
def pf (Q : List Pt) : List Value := Q.flatMap (fun t => [.int .i64 t.1.1, .int .i64 t.1.2.1, t.2])
theorem pf_cons (t : Pt) (Q : List Pt) : pf (t :: Q) = [.int .i64 t.1.1, .int .i64 t.1.2.1, t.2] ++ pf Q := by unfold pf; rw [List.flatMap_cons]
theorem pf_append (P Q : List Pt) : pf (P ++ Q) = pf P ++ pf Q := by unfold pf; rw [List.flatMap_append]
theorem pf_len (Q : List Pt) : (pf Q).length = Q.length * 3 := by
  induction Q with
  | nil => rfl
  | cons t Q ih => rw [pf_cons, List.length_append, ih]; simp; omega
theorem pf_get : ∀ (Q : List Pt) (j : Nat) (hj : j < Q.length), (pf Q)[j * 3]? = some (.int .i64 (Q[j]).1.1) ∧ (pf Q)[j * 3 + 1]? = some (.int .i64 (Q[j]).1.2.1) ∧ (pf Q)[j * 3 + 2]? = some (Q[j]).2
  | [], j, hj => absurd hj (Nat.not_lt_zero _)
  | t :: Q, 0, hj => by rw [pf_cons]; exact ⟨rfl, rfl, rfl⟩
  | t :: Q, j + 1, hj => by
    have hj' : j < Q.length := by simpa using hj
    have ih := pf_get Q j hj'
    rw [pf_cons, show (j + 1) * 3 = 3 + j * 3 by omega, Nat.add_assoc, Nat.add_assoc]
    rw [List.getElem?_append_right (by simp), List.getElem?_append_right (by simp), List.getElem?_append_right (by simp)]
    simpa using ih
def OwnB (z w : World) (t : Pt) : Prop := ∃ A c, t.2 = .slice A t.1.2.2.length c ∧ RowAt w z.heap.size 5 1 A t.1.2.2.length c (t.1.2.2.map (Value.int .u8))
def ArgB (z : World) (t : Pt) : Prop := ∃ A c, t.2 = .slice A t.1.2.2.length c ∧ Kd.C (Kd.int .u8) z A t.1.2.2.length t.1.2.2
def IsIn (z w : World) (A : Option Addr) (cap : Nat) (Q : List Pt) : Prop := RowAt w z.heap.size 43 3 A Q.length cap (pf Q) ∧ ∀ t ∈ Q, OwnB z w t
def IsRP (z w : World) (A : Option Addr) (cap : Nat) (Q : List Pt) : Prop := RowAt w z.heap.size 43 3 A Q.length cap (pf Q) ∧ ∀ t ∈ Q, ArgB z t
theorem pf_one {Q : List Pt} (h : ∀ t ∈ Q, t.2.oneCell' = true) : ∀ u ∈ pf Q, u.oneCell' = true := by
  intro u hu
  unfold pf at hu
  obtain ⟨t, ht, hu⟩ := List.mem_flatMap.1 hu
  rcases List.mem_cons.1 hu with rfl | hu
  · rfl
  rcases List.mem_cons.1 hu with rfl | hu
  · rfl
  rw [List.mem_singleton.1 hu]
  exact h t ht
theorem ArgB.one {z : World} {t : Pt} (h : ArgB z t) : t.2.oneCell' = true := by
  obtain ⟨A, c, e, _⟩ := h
  rw [e]; rfl
theorem OwnB.upd {S : Nat → Prop} {z w w' : World} {t : Pt} (h : OwnB z w t) (hU : Upd S w w') (hS : ∀ j cs fr, S j → w.heap[j]? ≠ some (.cells cs 5 fr)) : OwnB z w' t := by
  obtain ⟨A, c, e, h1⟩ := h
  refine ⟨A, c, e, h1.upd hU (fun j hj hs => ?_)⟩
  rcases h1.2 with ⟨e1, _⟩ | ⟨g, off, cur, e1, _, e2, _⟩
  · subst e1; cases hj
  · subst e1; cases hj; exact hS _ _ _ hs e2
theorem IsIn.upd {S : Nat → Prop} {z w w' : World} {A : Option Addr} {cap : Nat} {Q : List Pt} (h : IsIn z w A cap Q) (hU : Upd S w w') (hS : ∀ j cs fr, S j → w.heap[j]? ≠ some (.cells cs 5 fr)) (hA : ∀ g, A.map (·.block) = some g → ¬ S g) : IsIn z w' A cap Q :=
  ⟨h.1.upd hU hA, fun t ht => (h.2 t ht).upd hU hS⟩
theorem IsRP.upd {S : Nat → Prop} {z w w' : World} {A : Option Addr} {cap : Nat} {Q : List Pt} (h : IsRP z w A cap Q) (hU : Upd S w w') (hA : ∀ g, A.map (·.block) = some g → ¬ S g) : IsRP z w' A cap Q :=
  ⟨h.1.upd hU hA, h.2⟩
theorem ring_upd {S : Nat → Prop} {z w w' : World} {g a : Nat} {q : List (List Int)} {iv : Value} {lo : Int} (h : RingIs z w g a q iv lo) (hU : Upd S w w') (hg : ¬ S g) (hS : ∀ j cs fr, S j → w.heap[j]? ≠ some (.cells cs 5 fr)) : RingIs z w' g a q iv lo := by
  obtain ⟨vs, hI, ha, hm, ho⟩ := h
  refine ⟨vs, ⟨hU.far hI.1 hg, hI.2⟩, ha, hm, fun k hk => ?_⟩
  have h1 := ho k hk
  refine ⟨h1.1, ?_⟩
  rcases h1.2 with hn | ⟨g', cap, cur, e, hb, hgg, rest⟩
  · exact .inl hn
  · exact .inr ⟨g', cap, cur, e, hb, hU.far hgg (fun hs => hS _ _ _ hs hgg), rest⟩
theorem ring_c18 {z w : World} {g a : Nat} {q : List (List Int)} {iv : Value} {lo : Int} (h : RingIs z w g a q iv lo) : w.cell? ⟨g, 18, none⟩ = some iv ∧ w.cell? ⟨g, 19, none⟩ = some (.int .i64 lo) ∧ w.frozen? ⟨g, 18, none⟩ = false ∧ w.frozen? ⟨g, 19, none⟩ = false := by
  obtain ⟨vs, hI, _⟩ := h
  exact ⟨hI.c18, hI.c19, hI.fz 18, hI.fz 19⟩
theorem ring_blk {z w : World} {g a : Nat} {q : List (List Int)} {iv : Value} {lo : Int} (h : RingIs z w g a q iv lo) : ∃ cs, w.heap[g]? = some (.cells cs 40 (0, 0)) ∧ z.heap.size ≤ g := by
  obtain ⟨vs, hI, _⟩ := h
  exact ⟨_, hI.1, hI.2.2⟩
theorem ring_set18 {z w : World} {g a : Nat} {q : List (List Int)} {iv : Value} {lo : Int} (h : RingIs z w g a q iv lo) (x : Value) : RingIs z (w.setCell ⟨g, 18, none⟩ x) g a q x lo := by
  obtain ⟨vs, hI, ha, hm, ho⟩ := h
  exact ⟨vs, hI.set18 x, ha, hm, fun k hk => (ho k hk).kept (grownBy_setC w ⟨g, 18, none⟩ x) (Or.inr (own_off (ho k hk) hI.1 (by decide)))⟩
theorem ring_set19 {z w : World} {g a : Nat} {q : List (List Int)} {iv : Value} {lo : Int} (h : RingIs z w g a q iv lo) (x : Int) : RingIs z (w.setCell ⟨g, 19, none⟩ (.int .i64 x)) g a q iv x := by
  obtain ⟨vs, hI, ha, hm, ho⟩ := h
  exact ⟨vs, hI.set19 x, ha, hm, fun k hk => (ho k hk).kept (grownBy_setC w ⟨g, 19, none⟩ _) (Or.inr (own_off (ho k hk) hI.1 (by decide)))⟩
theorem upd_of_grown {S : Nat → Prop} {a w : World} {row : Option Nat} (h : a.grownBy w row) (hr : ∀ r, row = some r → S r) : Upd S a w := ⟨h.os, h.tape, h.output, h.size, fun i hi hs => h.block i hi (fun e => hs (hr i e.symm))⟩
theorem upd_of_keep {z w w' : World} {g : Nat} (h : Below z.heap.size z w) (h' : Below z.heap.size z w') (k : KeepBut w w' g none) : Upd (fun j => j = g) w w' := ⟨h'.os.trans h.os.symm, h'.tape.trans h.tape.symm, h'.output.trans h.output.symm, k.1, fun i hi hs => k.2 i hi hs (by simp)⟩
end Go.Proofs.Ytmofahlmcpeanaa.Hs5
