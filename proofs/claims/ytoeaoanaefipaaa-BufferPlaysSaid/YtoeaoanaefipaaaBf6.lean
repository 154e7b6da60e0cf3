/- What is taken out of a buffer. -/
import Derived.Test.YtoeaoanaefipaaaProg
import Derived.Below
import Derived.Deep.Draws
import Derived.Deep.AppendLies
import Derived.Maps.AppendAt
import Derived.OwnWalk
import Derived.Laws.BytesArg
import Derived.Laws.MakeOwn
import Derived.Laws.OwnMore
import Derived.Deep.OwnRows
import Derived.Tactics
import Derived.Lib.ConvBytes
import Derived.Laws.Slices
import Derived.WalkKit
import Derived.KernelRfl
import Derived.RowKit3
import Derived.Deep.LoopGhost
import Derived.Deep.QuietTactic
import Derived.BigQuiet
import Derived.WideLaws
import Derived.Deep.DeepCutAuto
import Derived.Deep.CutBlock
import Derived.Deep.RegionHeld3
import Derived.Laws.Rows
import Derived.Lib.AppendStr
import Derived.ArgAppend
import Derived.Laws.IdiomCopy
import Derived.OrdersHeld
import Derived.Laws.BitsLemmas
import Derived.RowKit
import Derived.RegionTactic
import Derived.ChangeAlike
import Derived.Outline
import Derived.LoopTactic
import Derived.WalkSpells
import Derived.WalkLawsBesides
import Derived.Lib.Hide
import Derived.StillTailTactics
import Derived.Deep.RegionWith
import Derived.Deep.RegionLaw
import Derived.Deep.DeepFit
import Derived.Deep.DeepMust
import Derived.Test.YtoeaoanaefipaaaWWords
import Derived.Test.YtoeaoanaefipaaaWLast
import Derived.Test.YtoeaoanaefipaaaWTab
import Derived.Test.YtoeaoanaefipaaaWFour
import Derived.Test.YtoeaoanaefipaaaWQPut
import Derived.Test.YtoeaoanaefipaaaWApart
import Derived.Test.YtoeaoanaefipaaaWArr
import Derived.Test.YtoeaoanaefipaaaWZeros
import Derived.Test.YtoeaoanaefipaaaWFoot
import Derived.Test.YtoeaoanaefipaaaWKept
import Derived.Test.YtoeaoanaefipaaaWShare
import Derived.Test.YtoeaoanaefipaaaWN
import Derived.Test.YtoeaoanaefipaaaWFootNe
import Derived.Test.YtoeaoanaefipaaaWAt
import Derived.Test.YtoeaoanaefipaaaWEqStruct
import Derived.Test.YtoeaoanaefipaaaWRepsOne
import Derived.Test.YtoeaoanaefipaaaWInv
import Derived.Test.YtoeaoanaefipaaaWInvWords
import Derived.Test.YtoeaoanaefipaaaWGuard
import Derived.Test.YtoeaoanaefipaaaWNEv
import Derived.Test.YtoeaoanaefipaaaWMore
import Derived.Test.YtoeaoanaefipaaaBf5
import Derived.Laws.IdiomStrings
import Derived.Maps.AppendAt
namespace Go.Proofs.Ytoeaoanaefipaaa.Bf6
open Go.RowKit Go.Proofs.YtoeaoanaefipaaaW.PrintWords Go.Proofs.YtoeaoanaefipaaaW.PrintLast Go.Proofs.YtoeaoanaefipaaaW.PrintMore 
attribute [local go_sem] max2_int min2_int max_two min_two max_three min_three max_four min_four
set_option linter.unusedVariables false
set_option linter.unusedSimpArgs false
open Go.Maps Go.ChangeMaps Go.Proofs.Ytoeaoanaefipaaa.Bf1 Go.Proofs.Ytoeaoanaefipaaa.Bf2 Go.Proofs.Ytoeaoanaefipaaa.Bf3 Go.Proofs.Ytoeaoanaefipaaa.BfP Go.Proofs.Ytoeaoanaefipaaa.Bf4 Go.Proofs.Ytoeaoanaefipaaa.Bf5
attribute [local go_sem] cellS1 frozenS1 cellS2 frozenS2 cellS3 frozenS3 cellS4 frozenS4 cellS5 frozenS5 cellS6 frozenS6

theorem own_off {w : World} {b g : Nat} {e : TypeId} {size : Nat} {v : Value} {n : Nat} {xs : List Value} {cs : Array Value} {t : TypeId} {fr : Nat × Nat} (h : w.ownsRow b e size v n xs) (hg : w.heap[g]? = some (.cells cs t fr)) (ht : t ≠ e) : v.ownBlock ≠ some g := by
  intro e'
  rcases h.2 with ⟨rfl, _⟩ | ⟨g', cap, cur, rfl, _, hgg, _⟩
  · simp [Value.ownBlock] at e'
  · simp [Value.ownBlock] at e'
    subst e'
    rw [hgg] at hg
    cases hg
    exact ht rfl
def NotC (o : Obj) : Prop := ∀ cs t fr, o ≠ .cells cs t fr
theorem cell_any {w : World} {k : Nat} {cs : Array Value} {t : TypeId} {fr : Nat × Nat} (h : w.heap[k]? = some (.cells cs t fr)) (j : Nat) : w.cell? ⟨k, j, none⟩ = cs[j]? := by simp [World.cell?, h]
theorem own_offm {w : World} {b g : Nat} {e : TypeId} {size : Nat} {v : Value} {n : Nat} {xs : List Value} {o : Obj} (h : w.ownsRow b e size v n xs) (hg : w.heap[g]? = some o) (ho : NotC o) : v.ownBlock ≠ some g := by
  intro e'
  rcases h.2 with ⟨rfl, _⟩ | ⟨g', cap, cur, rfl, _, hgg, _⟩
  · simp [Value.ownBlock] at e'
  · simp [Value.ownBlock] at e'
    subst e'
    rw [hgg] at hg
    cases hg
    exact ho _ _ _ rfl
theorem own_ge {w : World} {b g : Nat} {e : TypeId} {size : Nat} {v : Value} {n : Nat} {xs : List Value} (h : w.ownsRow b e size v n xs) (hg : v.ownBlock = some g) : b ≤ g ∧ ∃ cs, w.heap[g]? = some (.cells cs e (0, 0)) := by
  rcases h.2 with ⟨rfl, _⟩ | ⟨g', cap, cur, rfl, hb, hgg, _⟩
  · simp [Value.ownBlock] at hg
  · simp [Value.ownBlock] at hg
    subst hg
    exact ⟨hb, cur, hgg⟩
theorem own_apart {w : World} {b b' : Nat} {e e' : TypeId} {size size' : Nat} {v v' : Value} {n n' : Nat} {xs xs' : List Value} (h : w.ownsRow b e size v n xs) (h' : w.ownsRow b' e' size' v' n' xs') (he : e ≠ e') : v.ownBlock = none ∨ v.ownBlock ≠ v'.ownBlock := by
  cases hv : v.ownBlock with
  | none => exact Or.inl rfl
  | some g =>
    refine Or.inr (fun e2 => ?_)
    obtain ⟨_, cs, hcs⟩ := own_ge h hv
    exact own_off h' hcs he (by rw [← e2])
theorem grownBy_setC (w : World) (p : Addr) (u : Value) : w.grownBy (w.setCell p u) (some p.block) := ⟨rfl, rfl, rfl, by simp, fun j hj hne => Below.heap_setCell w p u j (fun e => hne (by rw [e]))⟩
theorem grown_below {w w' : World} {row : Option Nat} (hb : Below w.heap.size w w') : w.grownBy w' row := ⟨hb.os, hb.tape, hb.output, hb.size, fun i hi _ => hb.block i hi⟩
theorem upd_grown {S : Nat → Prop} {a w w' : World} {row : Option Nat} (h : Upd S a w) (hg : w.grownBy w' row) (hr : ∀ r, row = some r → S r ∨ a.heap.size ≤ r) : Upd S a w' :=
  ⟨hg.os.trans h.os, hg.tape.trans h.tape, hg.output.trans h.output, Nat.le_trans h.size hg.size, fun k hk hs => (hg.block k (Nat.lt_of_lt_of_le hk h.size) (fun e => by rcases hr k e.symm with x | x; exact hs x; omega)).trans (h.block k hk hs)⟩
theorem upd_below {S : Nat → Prop} {a w w' : World} (h : Upd S a w) (hb : Below w.heap.size w w') : Upd S a w' := upd_grown h (row := none) (grown_below hb) (fun r e => by cases e)
theorem upd_one {b : Nat} {a w : World} (h : Upd (fun k => k = b) a w) : a.grownBy w (some b) := ⟨h.os, h.tape, h.output, h.size, fun k hk hne => h.block k hk (fun e => hne (by rw [e]))⟩
/-- Bytes that lie in a block of their own. -/
def ByteB (w : World) (n0 : Nat) (v : Value) (b : List Int) : Prop := ∃ (k c : Nat) (cs : Array Value) (fr : Nat × Nat), v = .slice (some ⟨k, 0, none⟩) b.length c ∧ n0 ≤ k ∧ w.heap[k]? = some (.cells cs 5 fr) ∧ ∀ j, j < b.length → cs[j]? = some (.int .u8 (b.getD j 0))
theorem ByteB.kept {w w' : World} {n0 : Nat} {v : Value} {b : List Int} {row : Option Nat} (h : ByteB w n0 v b) (hg : w.grownBy w' row) (hr : ∀ r, row = some r → ∀ cs fr, w.heap[r]? ≠ some (.cells cs 5 fr)) : ByteB w' n0 v b := by
  obtain ⟨k, c, cs, fr, e, h0, h1, h2⟩ := h
  exact ⟨k, c, cs, fr, e, h0, (hg.block k (blk_lt h1) (fun e' => hr k e'.symm cs fr h1)).trans h1, h2⟩
theorem ByteB.C {w : World} {n0 : Nat} {v : Value} {b : List Int} (h : ByteB w n0 v b) (hb : b.length ≤ maxLen) : ∃ A c, v = .slice A b.length c ∧ Kd.C (Kd.int .u8) w A b.length b := by
  obtain ⟨k, c, cs, fr, e, _, h1, h2⟩ := h
  refine ⟨_, c, e, Kd.C_of_reads (d := (0 : Int)) (h1 := fun _ => rfl) ⟨rfl, hb, fun _ => ⟨_, rfl, fun j hj => ?_⟩⟩⟩
  have h3 : (⟨k, 0, none⟩ : Addr).add j = ⟨k, j, none⟩ := by simp [Addr.add] <;> omega
  rw [h3, cell_any h1, h2 j hj]
/-- What was taken out. -/
def Gone (w : World) (n0 : Nat) (v : Value) (G : List It) : Prop := ∃ vs : List Value, w.ownsRow n0 27 1 v G.length vs ∧ ∀ i, i < G.length → ∃ u, vs[i]? = some u ∧ ByteB w n0 u (G.getD i dflt).2.2
theorem Gone.nil (w : World) (n0 : Nat) : Gone w n0 (.slice none 0 0) [] := ⟨[], World.ownsRow_nil _ _ _ _, fun i hi => absurd hi (Nat.not_lt_zero _)⟩
theorem Gone.kept {w w' : World} {n0 : Nat} {v : Value} {G : List It} {row : Option Nat} (h : Gone w n0 v G) (hg : w.grownBy w' row) (hr : ∀ r, row = some r → ∀ cs t fr, t = 5 ∨ t = 27 → w.heap[r]? ≠ some (.cells cs t fr)) : Gone w' n0 v G := by
  obtain ⟨vs, h1, h2⟩ := h
  refine ⟨vs, h1.kept hg ?_, fun i hi => ?_⟩
  · cases hv : v.ownBlock with
    | none => exact Or.inl rfl
    | some g =>
      refine Or.inr (fun e => ?_)
      obtain ⟨_, cs, hcs⟩ := own_ge h1 hv
      exact hr g e.symm cs 27 _ (Or.inr rfl) hcs
  · obtain ⟨u, h3, h4⟩ := h2 i hi
    exact ⟨u, h3, h4.kept hg (fun r e cs fr => hr r e cs 5 fr (Or.inl rfl))⟩
theorem Gone.below {w w' : World} {n0 : Nat} {v : Value} {G : List It} (h : Gone w n0 v G) (hb : Below w.heap.size w w') : Gone w' n0 v G := h.kept (row := none) (grown_below hb) (fun r e => by cases e)
theorem Gone.row {w w' : World} {n0 b size n : Nat} {e : TypeId} {v v2 : Value} {xs : List Value} {G : List It} (h : Gone w n0 v G) (ho : w.ownsRow b e size v2 n xs) (he : e ≠ 5 ∧ e ≠ 27) (hg : w.grownBy w' v2.ownBlock) : Gone w' n0 v G :=
  h.kept hg (fun r er cs t fr ht hh => by
    obtain ⟨_, cs', hcs⟩ := own_ge ho er
    rw [hcs] at hh
    cases hh
    rcases ht with rfl | rfl
    · exact he.1 rfl
    · exact he.2 rfl)
theorem Gone.bm {w w' : World} {n0 b : Nat} {v : Value} {o : Obj} {G : List It} (h : Gone w n0 v G) (hg : w.grownBy w' (some b)) (hb : w.heap[b]? = some o) (ho : NotC o) : Gone w' n0 v G :=
  h.kept hg (fun r er cs t fr ht hh => by
    cases er
    rw [hb] at hh
    exact ho _ _ _ (by simpa using hh))
theorem CMap.obj {w : World} {bm n : Nat} {M : Int → Int → Int} (h : CMap w bm n M) : ∃ o, w.heap[bm]? = some o ∧ NotC o := by
  obtain ⟨D, h1, _⟩ := h
  obtain ⟨es, clock, hbk, _⟩ := id h1
  exact ⟨_, hbk, fun _ _ _ e => by cases e⟩
/-- '[]byte(s)' of a string of bytes. -/
theorem bytes_new (w : World) (b : List Int) (hb : ∀ y ∈ b, 0 ≤ y ∧ y ≤ 255) : ∃ (c : Nat) (W : World), (convert 9 27 (.string (strOfNums b))).run Try.prog w = .ok (.slice (some ⟨w.heap.size, 0, none⟩) b.length c) W ∧ Below w.heap.size w W ∧ W.heap.size = w.heap.size + 1 ∧ ByteB W w.heap.size (.slice (some ⟨w.heap.size, 0, none⟩) b.length c) b := by
  have h := run_bytes_of_string (P := Try.prog) w 9 27 5 (strOfNums b) Try.underlying9 Try.underlying27 Try.underlying5
  rw [strOfNums_size] at h
  refine ⟨_, _, h, below_alloc (below_drew1 (Below.refl _ _)) _, by simp, ⟨w.heap.size, _, _, _, rfl, Nat.le_refl _, blk_new w.drew _, fun j hj => ?_⟩⟩
  unfold bytesRow
  have hsz : j < ((strOfNums b).data.map (fun x => Value.int .u8 x.toNat)).size := by
    rw [Array.size_map]
    show j < (strOfNums b).size
    rw [strOfNums_size]; exact hj
  rw [Array.getElem?_append_left hsz, Array.getElem?_map]
  have h2 : (strOfNums b).data[j]? = some (UInt8.ofNat (b.getD j 0).toNat) := by
    rw [← Array.getElem?_toList, strOfNums_data, List.getElem?_map, List.getElem?_eq_getElem hj, List.getD_eq_getElem?_getD, List.getElem?_eq_getElem hj]; rfl
  rw [h2]
  have h3 := hb (b.getD j 0) (by rw [List.getD_eq_getElem?_getD, List.getElem?_eq_getElem hj]; exact List.getElem_mem hj)
  have h4 : (UInt8.ofNat (b.getD j 0).toNat).toNat = (b.getD j 0).toNat := UInt8.toNat_ofNat_of_lt' (by show _ < 256; omega)
  show some (Value.int .u8 ((UInt8.ofNat (b.getD j 0).toNat).toNat : Int)) = _
  rw [h4, Int.toNat_of_nonneg h3.1]
theorem Gone.snoc {W w' : World} {n0 : Nat} {v v' u : Value} {G : List It} {x : It} {vs : List Value} {o : Obj} (h0 : W.ownsRow n0 27 1 v G.length vs) (h1 : ∀ i, i < G.length → ∃ u, vs[i]? = some u ∧ ByteB W n0 u (G.getD i dflt).2.2) (hu : ByteB W n0 u x.2.2) (hown : w'.ownsRow n0 27 1 v' (G.length + 1) (vs ++ [u])) (hg : (W.alloc o).grownBy w' v.ownBlock) : Gone w' n0 v' (G ++ [x]) := by
  have hlen : vs.length = G.length := by have := h0.1; omega
  have hr : ∀ r, v.ownBlock = some r → ∀ cs fr, W.heap[r]? ≠ some (.cells cs 5 fr) := fun r er cs fr hh => by
    obtain ⟨_, cs', hcs⟩ := own_ge h0 er
    rw [hcs] at hh
    cases hh
  have hk : ∀ {q : Value} {b : List Int}, ByteB W n0 q b → ByteB w' n0 q b := fun {q b} hq => by
    obtain ⟨k, c', cs, fr, e1, e2, e3, e4⟩ := hq
    exact ⟨k, c', cs, fr, e1, e2, ((hg.block k (by simp; exact Nat.lt_succ_of_lt (blk_lt e3)) (fun e' => hr k e'.symm cs fr e3)).trans (Below.heap_alloc W o k (blk_lt e3))).trans e3, e4⟩
  refine ⟨vs ++ [u], by rw [List.length_append]; exact hown, fun i hi => ?_⟩
  rw [List.length_append] at hi
  replace hi : i < G.length + 1 := hi
  by_cases hig : i < G.length
  · obtain ⟨q, h2, h3⟩ := h1 i hig
    refine ⟨q, by rw [List.getElem?_append_left (by omega)]; exact h2, ?_⟩
    rw [show (G ++ [x]).getD i dflt = G.getD i dflt by rw [List.getD_eq_getElem?_getD, List.getElem?_append_left hig, List.getD_eq_getElem?_getD]]
    exact hk h3
  · obtain rfl : i = G.length := by omega
    refine ⟨u, by rw [List.getElem?_append_right (by omega), hlen, Nat.sub_self]; rfl, ?_⟩
    rw [show (G ++ [x]).getD G.length dflt = x by rw [List.getD_eq_getElem?_getD, List.getElem?_append_right (Nat.le_refl _), Nat.sub_self]; rfl]
    exact hk hu
theorem cells_new (w : World) (cs : Array Value) (t : TypeId) (j : Nat) (u : Value) (h : cs.toList[j]? = some u) : (w.alloc (.cells cs t (0, 0))).cell? ((⟨w.heap.size, 0, none⟩ : Addr).add j) = some u := by
  have := blk_cell (blk_new w (.cells cs t (0, 0))) j
  rw [show ((⟨w.heap.size, 0, none⟩ : Addr).add j) = ⟨w.heap.size, j, none⟩ by simp [Addr.add] <;> omega, this]
  simpa using h
theorem setBlock_self {w : World} {b : Nat} {o : Obj} (h : w.heap[b]? = some o) : setBlock w b o = w := by
  unfold setBlock
  have hl := blk_lt h
  have : w.heap.setIfInBounds b o = w.heap := by
    apply Array.ext
    · simp
    · intro i h1 h2
      rw [Array.getElem_setIfInBounds (by simpa using h1)]
      split
      · rename_i e
        subst e
        rw [Array.getElem?_eq_getElem hl] at h
        exact (Option.some.inj h).symm
      · rfl
  rw [this]
theorem CMap.entry2 {w : World} {bm n : Nat} {M : Int → Int → Int} (h : CMap w bm n M) (hn : n < maxLen) {a b : Int} (ha : (Lit.int .i64 a).wf = true) (hb : (Lit.int .i64 b).wf = true) :
    ∃ (v0 : Value) (st : Nat) (w1 : World), (Instr.mapEntry 37 (.map (some bm)) (kv a b)).run Try.prog w = .ok (.tuple #[v0, goInt st]) w1 ∧ (Instr.lookup 37 (.map (some bm)) (kv a b) false).run Try.prog w1 = .ok (.int .i64 (M a b)) w1 ∧
      ∀ v : Int, (Lit.int .i64 v).wf = true → ∃ w2, (Instr.entryStore 37 (.map (some bm)) (goInt st) (.int .i64 v)).run Try.prog w1 = .ok () w2 ∧ CMap w2 bm (n + 1) (setM M a b v) ∧ w.mapTurned w2 bm := by
  obtain ⟨v0, st, w1, hrun, hst⟩ := CMap.entry h hn ha hb
  refine ⟨v0, st, w1, hrun, ?_, hst⟩
  have hlook := h.look ha hb
  obtain ⟨D, h1, h2⟩ := id h
  obtain ⟨es, clock, hbk, F, hs, hD⟩ := id h1
  rcases klaw0.find w (keyOf_kv ha hb) es.toList F.keys with ⟨h3, h4⟩ | ⟨j, e0, h3, h4, h5⟩
  · have e1 : (Instr.mapEntry 37 (.map (some bm)) (kv a b)).run Try.prog w = .ok (.tuple #[.int .i64 0, goInt clock]) (setBlock w bm (.map (es.push ⟨kv a b, .int .i64 0, clock⟩) (clock + 1))) := by
      simp [Instr.mapEntry, run_underlying Try.underlying37, MapKept.run_getObj_map hbk, klaw0.check w false (keyOf_kv ha hb), h3, zero3, MapKept.run_setObj_map _ hbk, Result.andThen, setBlock]
    have e2 : (Instr.mapUpdate 37 (.map (some bm)) (kv a b) (.int .i64 0)).run Try.prog w = .ok () (setBlock w bm (.map (es.push ⟨kv a b, .int .i64 0, clock⟩) (clock + 1))) := by
      simp [Instr.mapUpdate, run_underlying Try.underlying37, MapKept.run_getObj_map hbk, klaw0.check w false (keyOf_kv ha hb), h3, MapKept.run_setObj_map _ hbk, Result.andThen, setBlock]
    have e3 : (Instr.lookup 37 (.map (some bm)) (kv a b) false).run Try.prog w = .ok (.int .i64 0) w := by
      simp [Instr.lookup, run_underlying Try.underlying37, MapKept.run_getObj_map hbk, klaw0.check w _ (keyOf_kv ha hb), h3, zero3, Result.andThen]
    obtain ⟨w', hr3, h6, h7⟩ := h1.store klaw Try.underlying37 hn (keyOf_kv ha hb) (plainElem_int Try.underlying3 (wf64 (a := 0) (by decide) (by decide)))
    rw [e1] at hrun
    rw [e2] at hr3
    rw [e3] at hlook
    have q1 : w' = w1 := by injection hr3 with _ x; injection hrun with _ y; rw [← x, ← y]
    have q2 : M a b = 0 := by injection hlook with x _; injection x with _ x; exact x.symm
    subst q1
    obtain ⟨c, hrun2, hat, hwc⟩ := h6.lookup_int klaw Try.underlying37 Try.underlying3 (zero3 w') (keyOf_kv ha hb)
    have hat2 := (atKey_put_same (k := kl a b) h1.isMap (show WideAt.IsKeyLit (kl a b) from trivial) _ _).symm.trans hat
    cases hat2
    rw [q2]
    exact hrun2
  · have hj : es[j]? = some e0 := by simpa using h4
    have hjl := (Array.getElem?_eq_some_iff.1 hj).1
    have hsame : es.modify j (fun e => { e with key := kv a b }) = es := by
      apply Array.ext
      · simp
      · intro i i1 i2
        rw [Array.getElem_modify]
        split
        · rename_i e
          subst e
          have : es[j] = e0 := (Array.getElem?_eq_some_iff.1 hj).2
          rw [this, ← h5]
        · rfl
    have e1 : (Instr.mapEntry 37 (.map (some bm)) (kv a b)).run Try.prog w = .ok (.tuple #[e0.val, goInt e0.born]) (setBlock w bm (.map es clock)) := by
      simp [Instr.mapEntry, run_underlying Try.underlying37, MapKept.run_getObj_map hbk, klaw0.check w false (keyOf_kv ha hb), h3, hj, h5, klaw0.stays w (keyOf_kv ha hb), hsame, MapKept.run_setObj_map _ hbk, Result.andThen, setBlock]
    rw [e1, setBlock_self hbk] at hrun
    have q1 : w = w1 := by injection hrun
    subst q1
    exact hlook
theorem info53 : (Try.prog.info? 53).map (fun i => (i.zero, i.size, i.bytes)) = some (some (.agg #[.int .i64 0, .int .i64 0, .string ByteArray.empty]), 3, 32) := by kernel_rfl
theorem info27 : (Try.prog.info? 27).map (fun i => (i.zero, i.size, i.bytes)) = some (some (.slice none 0 0), 1, 24) := by kernel_rfl
theorem step_keep (K L : List It) (d : Nat) (hd : d < L.length) : (fun a b => (cnt (K ++ L.drop d) a b : Int)) = fun a b => (cnt (K ++ [L[d]] ++ L.drop (d + 1)) a b : Int) := by
  funext a b
  rw [List.drop_eq_getElem_cons hd, List.append_assoc]; rfl
theorem step_pos (K L : List It) (d : Nat) (hd : d < L.length) : cnt (K ++ L.drop d) L[d].1 L[d].2.1 = cnt (K ++ L.drop (d + 1)) L[d].1 L[d].2.1 + 1 := by
  rw [List.drop_eq_getElem_cons hd, cnt_append, cnt_cons, cnt_append, if_pos ⟨rfl, rfl⟩]; omega
theorem step_gone (K L : List It) (d : Nat) (hd : d < L.length) : setM (fun a b => (cnt (K ++ L.drop d) a b : Int)) L[d].1 L[d].2.1 (cnt (K ++ L.drop (d + 1)) L[d].1 L[d].2.1 : Int) = fun a b => (cnt (K ++ L.drop (d + 1)) a b : Int) := by
  funext a b
  unfold setM
  by_cases h : a = L[d].1 ∧ b = L[d].2.1
  · rw [if_pos h, h.1, h.2]
  · rw [if_neg h]
    show ((cnt (K ++ L.drop d) a b : Nat) : Int) = _
    rw [List.drop_eq_getElem_cons hd, cnt_append, cnt_cons, cnt_append, if_neg (fun e => h ⟨e.1.symm, e.2.symm⟩), Nat.zero_add]
theorem setM_twice (M : Int → Int → Int) (a b x y : Int) : setM (setM M a b x) a b y = setM M a b y := by
  funext p q
  unfold setM
  split <;> rfl
end Go.Proofs.Ytoeaoanaefipaaa.Bf6
