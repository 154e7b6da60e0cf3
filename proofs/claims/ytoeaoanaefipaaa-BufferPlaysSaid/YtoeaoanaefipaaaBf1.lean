/- The map of counts of a buffer. -/
import Derived.Test.YtoeaoanaefipaaaProg
import Derived.Below
import Derived.Deep.Draws
import Derived.Deep.AppendLies
import Derived.Maps.AppendAt
import Derived.OwnWalk
import Derived.Laws.BytesArg
import Derived.Laws.MakeOwn
import Derived.Laws.OwnMore
import Derived.Deep.OwnRows
import Derived.Tactics
import Derived.Lib.ConvBytes
import Derived.Laws.Slices
import Derived.WalkKit
import Derived.KernelRfl
import Derived.RowKit3
import Derived.Deep.LoopGhost
import Derived.Deep.QuietTactic
import Derived.BigQuiet
import Derived.WideLaws
import Derived.Deep.DeepCutAuto
import Derived.Deep.CutBlock
import Derived.Deep.RegionHeld3
import Derived.Laws.Rows
import Derived.Lib.AppendStr
import Derived.ArgAppend
import Derived.Laws.IdiomCopy
import Derived.OrdersHeld
import Derived.Laws.BitsLemmas
import Derived.RowKit
import Derived.RegionTactic
import Derived.ChangeAlike
import Derived.Outline
import Derived.LoopTactic
import Derived.WalkSpells
import Derived.WalkLawsBesides
import Derived.Lib.Hide
import Derived.StillTailTactics
import Derived.Deep.RegionWith
import Derived.Deep.RegionLaw
import Derived.Deep.DeepFit
import Derived.Deep.DeepMust
import Derived.Test.YtoeaoanaefipaaaWWords
import Derived.Test.YtoeaoanaefipaaaWLast
import Derived.Test.YtoeaoanaefipaaaWTab
import Derived.Test.YtoeaoanaefipaaaWFour
import Derived.Test.YtoeaoanaefipaaaWQPut
import Derived.Test.YtoeaoanaefipaaaWApart
import Derived.Test.YtoeaoanaefipaaaWArr
import Derived.Test.YtoeaoanaefipaaaWZeros
import Derived.Test.YtoeaoanaefipaaaWFoot
import Derived.Test.YtoeaoanaefipaaaWKept
import Derived.Test.YtoeaoanaefipaaaWShare
import Derived.Test.YtoeaoanaefipaaaWN
import Derived.Test.YtoeaoanaefipaaaWFootNe
import Derived.Test.YtoeaoanaefipaaaWAt
import Derived.Test.YtoeaoanaefipaaaWEqStruct
import Derived.Test.YtoeaoanaefipaaaWRepsOne
import Derived.Test.YtoeaoanaefipaaaWInv
import Derived.Test.YtoeaoanaefipaaaWInvWords
import Derived.Test.YtoeaoanaefipaaaWGuard
import Derived.Test.YtoeaoanaefipaaaWNEv
import Derived.Test.YtoeaoanaefipaaaWMore
import Derived.Maps.OwnSet
import Derived.Maps.OwnOps
import Derived.Maps.Views
import Derived.WideKeyEntry
import Derived.WideKeyArr2
import Derived.Lib.SmallJoins
namespace Go.Proofs.Ytoeaoanaefipaaa.Bf1
open Go.RowKit Go.Proofs.YtoeaoanaefipaaaW.PrintWords Go.Proofs.YtoeaoanaefipaaaW.PrintLast Go.Proofs.YtoeaoanaefipaaaW.PrintMore 
attribute [local go_sem] max2_int min2_int max_two min_two max_three min_three max_four min_four
set_option linter.unusedVariables false
set_option linter.unusedSimpArgs false
open Go.Maps Go.ChangeMaps
/-- A cell's key as a value, as a literal. -/
def kv (a b : Int) : Value := .agg #[.int .i64 a, .int .i64 b]
def kl (a b : Int) : Lit := .string (keyBytes [.int .i64 a, .int .i64 b])
theorem ak : WideMaps.ArrKey Try.prog 51 3 2 := ⟨Try.underlying51, by kernel_rfl, by kernel_rfl, by kernel_rfl⟩
theorem klaw0 : WideMaps.KeyLaw Try.prog 51 := ak.law
theorem klaw : Keyed Try.prog 51 := Keyed.of_law klaw0
theorem keyOf_kv {a b : Int} (ha : (Lit.int .i64 a).wf = true) (hb : (Lit.int .i64 b).wf = true) : keyOf Try.prog 51 (kv a b) = some (kl a b) := by
  have hsz : ∃ m, Try.prog.types.size = m + 1 := ⟨77, by kernel_rfl⟩
  have hkt := ak.keyType hsz
  obtain ⟨m0, hm0⟩ := hsz
  unfold keyOf kv kl
  simp only [ak.hu]
  rw [if_pos (by simp [hkt, Value.formed, ak.hu, ak.size]), hm0]
  unfold Program.keyLits
  simp only [ak.hu, Value.cells]
  rw [if_pos (by rw [ak.size]; simp)]
  simp [ak.size, ak.one, Program.keyLits, Try.underlying3, ha, hb, List.range, List.range.loop, List.mapM_cons, List.mapM_nil]
theorem kl_inj {a b c d : Int} (ha : (Lit.int .i64 a).wf = true) (hb : (Lit.int .i64 b).wf = true) (hc : (Lit.int .i64 c).wf = true) (hd : (Lit.int .i64 d).wf = true) (h : kl a b = kl c d) : a = c ∧ b = d := by
  unfold kl at h
  have := keyBytes_inj (l := [.int .i64 a, .int .i64 b]) (l' := [.int .i64 c, .int .i64 d]) (by simp [Alike, Lit.sameKind]) (by simp [Lit.keyWf, ha, hb]) (by simp [Lit.keyWf, hc, hd]) (by simpa using h)
  simpa using this
theorem zero3 (w : World) : (zeroValue 3).run Try.prog w = .ok (.int .i64 0) w := by kernel_rfl
/-- The map of counts. -/
def CMap (w : World) (bm n : Nat) (M : Int → Int → Int) : Prop :=
  ∃ D : DataW Unit, w.ownsMap Try.prog 51 (plainElem Try.prog 3) bm n D ∧ ∀ a b : Int, (Lit.int .i64 a).wf = true → (Lit.int .i64 b).wf = true → D.atKey (kl a b) (.lit (.int .i64 0)) = .lit (.int .i64 (M a b))
theorem CMap.kept {w w' : World} {bm n : Nat} {M : Int → Int → Int} {row : Option Nat} (h : CMap w bm n M) (hg : w.grownBy w' row) (hne : some bm ≠ row) : CMap w' bm n M := let ⟨D, h1, h2⟩ := h; ⟨D, h1.kept hg hne, h2⟩
theorem CMap.made {w : World} {bm : Nat} (h : w.heap[bm]? = some (.map #[] 0)) : CMap w bm 0 (fun _ _ => 0) := ⟨.map [], Go.Joins.ownsMap_empty h, fun _ _ _ _ => rfl⟩
theorem CMap.drewN {w : World} {bm n : Nat} {M : Int → Int → Int} (h : CMap w bm n M) (m : Nat) : CMap (w.drewN m) bm n M := h
theorem CMap.alloc {w : World} {bm n : Nat} {M : Int → Int → Int} (h : CMap w bm n M) (o : Obj) : CMap (w.alloc o) bm n M := h.kept (World.grownBy_alloc w o none) (by simp)
theorem CMap.below {w w' : World} {bm n : Nat} {M : Int → Int → Int} (h : CMap w bm n M) (hb : Below w.heap.size w w') : CMap w' bm n M := h.kept (row := none) ⟨hb.os, hb.tape, hb.output, hb.size, fun i hi _ => hb.block i hi⟩ (by simp)
theorem CMap.look {w : World} {bm n : Nat} {M : Int → Int → Int} (h : CMap w bm n M) {a b : Int} (ha : (Lit.int .i64 a).wf = true) (hb : (Lit.int .i64 b).wf = true) : (Instr.lookup 37 (.map (some bm)) (kv a b) false).run Try.prog w = .ok (.int .i64 (M a b)) w := by
  obtain ⟨D, h1, h2⟩ := h
  obtain ⟨c, hrun, hat, hwc⟩ := h1.lookup_int klaw Try.underlying37 Try.underlying3 (zero3 w) (keyOf_kv ha hb)
  rw [h2 a b ha hb] at hat
  cases hat
  exact hrun
/-- The map with one count set. -/
def setM (M : Int → Int → Int) (a b v : Int) : Int → Int → Int := fun x y => if x = a ∧ y = b then v else M x y
theorem CMap.drop {w : World} {bm n : Nat} {M : Int → Int → Int} (h : CMap w bm n M) {a b : Int} (ha : (Lit.int .i64 a).wf = true) (hb : (Lit.int .i64 b).wf = true) (ty : TypeId) :
    ∃ w', (Builtin.delete_ #[37, 51] ty #[.map (some bm), kv a b]).run Try.prog w = .ok (.tuple #[]) w' ∧ CMap w' bm n (setM M a b 0) ∧ w.mapTurned w' bm := by
  obtain ⟨D, h1, h2⟩ := h
  obtain ⟨w', hrun, h3, h4⟩ := h1.drop klaw Try.underlying37 (keyOf_kv ha hb) ty
  refine ⟨w', hrun, ⟨_, h3, fun x y hx hy => ?_⟩, h4⟩
  unfold setM
  by_cases e : x = a ∧ y = b
  · rw [if_pos e, e.1, e.2]; exact atKey_del_same _
  · rw [if_neg e, atKey_del_other (fun q => e (kl_inj hx hy ha hb q))]; exact h2 x y hx hy
theorem CMap.entry {w : World} {bm n : Nat} {M : Int → Int → Int} (h : CMap w bm n M) (hn : n < maxLen) {a b : Int} (ha : (Lit.int .i64 a).wf = true) (hb : (Lit.int .i64 b).wf = true) :
    ∃ (v0 : Value) (st : Nat) (w1 : World), (Instr.mapEntry 37 (.map (some bm)) (kv a b)).run Try.prog w = .ok (.tuple #[v0, goInt st]) w1 ∧
      ∀ v : Int, (Lit.int .i64 v).wf = true → ∃ w2, (Instr.entryStore 37 (.map (some bm)) (goInt st) (.int .i64 v)).run Try.prog w1 = .ok () w2 ∧ CMap w2 bm (n + 1) (setM M a b v) ∧ w.mapTurned w2 bm := by
  obtain ⟨D, h1, h2⟩ := h
  obtain ⟨es, clock, hbk, F, hs, hD⟩ := id h1
  obtain ⟨v0, st, es1, clock1, hrun, _, hst⟩ := WideElems.entry_then_store (w := w) klaw0 Try.underlying37 (fun u => zero3 u) hbk F (keyOf_kv ha hb)
  refine ⟨v0, st, _, hrun, fun v hv => ?_⟩
  obtain ⟨es', clock', hr1, hr2⟩ := hst (setBlock w bm (.map es1 clock1)) (.int .i64 v) (heap_setBlock_same hbk _)
  obtain ⟨w', hr3, h3, h4⟩ := h1.store klaw Try.underlying37 hn (keyOf_kv ha hb) (plainElem_int Try.underlying3 hv)
  have e0 := hr2.symm.trans hr3
  have e1 : setBlock w bm (.map es' clock') = w' := by injection e0
  refine ⟨_, hr1, ?_, ?_⟩
  · have e2 : setBlock (setBlock w bm (.map es1 clock1)) bm (.map es' clock') = w' := by rw [← e1]; simp [setBlock]
    rw [e2]
    refine ⟨_, h3, fun x y hx hy => ?_⟩
    unfold setM
    by_cases e : x = a ∧ y = b
    · rw [if_pos e, e.1, e.2]; exact atKey_put_same h1.isMap (show WideAt.IsKeyLit (.string _) from trivial) _ _
    · rw [if_neg e, atKey_put_other (fun q => e (kl_inj hx hy ha hb q))]; exact h2 x y hx hy
  · have e2 : setBlock (setBlock w bm (.map es1 clock1)) bm (.map es' clock') = w' := by rw [← e1]; simp [setBlock]
    rw [e2]; exact h4
theorem eq_int (d : Nat) (w : World) (x y : Int) : (Op.equalIn (d + 1) 3 (.int .i64 x) (.int .i64 y)).run Try.prog w = .ok (x == y) w := by
  rw [Op.equalIn]
  simp [run_underlying Try.underlying3, Result.andThen]
theorem eq_pair (k : Nat) (w : World) (a b c d : Int) : (Op.equalIn (k + 1 + 1) 51 (.agg #[.int .i64 a, .int .i64 b]) (.agg #[.int .i64 c, .int .i64 d])).run Try.prog w = .ok (a == c && b == d) w := by
  have hs : (sizeOf 3).run Try.prog w = .ok 1 w := by kernel_rfl
  have hp : ∀ (x y : Int) , (part 3 #[.int .i64 x, .int .i64 y] 0).run Try.prog w = .ok (.int .i64 x) w := fun x y => by first | kernel_rfl | rfl
  have hp1 : ∀ (x y : Int) , (part 3 #[.int .i64 x, .int .i64 y] 1).run Try.prog w = .ok (.int .i64 y) w := fun x y => by first | kernel_rfl | rfl
  rw [Op.equalIn]
  by_cases e : a = c
  · by_cases e2 : b = d
    · simp [run_underlying Try.underlying51, hs, Result.andThen, List.range', hp, hp1, eq_int, e, e2]
    · simp [run_underlying Try.underlying51, hs, Result.andThen, List.range', hp, hp1, eq_int, e, e2]
  · simp [run_underlying Try.underlying51, hs, Result.andThen, List.range', hp, hp1, eq_int, e]
theorem eq_kv (w : World) (a b c d : Int) : (Op.equalIn 10000 51 (.agg #[.int .i64 a, .int .i64 b]) (.agg #[.int .i64 c, .int .i64 d])).run Try.prog w = .ok (a == c && b == d) w := eq_pair 9998 w a b c d
end Go.Proofs.Ytoeaoanaefipaaa.Bf1
