/- How long the byte slices of an argument may be. -/
import Derived.Test.YtoeaoanaefipaaaWSized
import Derived.Test.YtoeaoanaefipaaaWWords
namespace Go.Proofs.Ytoeaoanaefipaaa.Sz
open Go.ChangeShapes Go.WideShapes Go.RowKit
theorem all_mem {H : Type} {P : Program} {e : TypeId} {d : DataW H} {n : Nat} (hn : n ∈ d.weights P e) : ∀ l : List (DataW H), d ∈ l → n ∈ DataW.weightsAll P e l
  | [], h => by cases h
  | x :: l, h => by
    simp only [DataW.weightsAll, List.mem_append]
    rcases List.mem_cons.1 h with rfl | h
    · exact Or.inl hn
    · exact Or.inr (all_mem hn l h)
theorem sized_inner {H : Type} {P : Program} {ts : List TypeId} {ds : List (DataW H)} {j : Nat} {t e b : TypeId} {d d2 : DataW H} {elems spare : List (DataW H)} {zs : List Int} {l : Nat}
    (hsz : (DataW.weightsEach P ts ds).all (· ≤ reachBytes) = true) (ht : ts[j]? = some t) (hd : ds[j]? = some d) (hu : P.underlying t = some (.slice e)) (he : P.underlying e = some (.slice b)) (hb : P.bytesOf b = 1)
    (h1 : d = .slice elems spare) (h2 : d2 = .slice (lits .u8 (zs.take l)) (lits .u8 (zs.drop l))) (hm : d2 ∈ elems) (hl : l ≤ zs.length) : l ≤ 140737488351232 := by
  subst h1
  have hn : ((lits (H := H) .u8 (zs.take l)).length + (lits (H := H) .u8 (zs.drop l)).length) * P.bytesOf b ∈ d2.weights P e := by
    rw [h2]
    simp [DataW.weights, he]
  have h3 : ((lits (H := H) .u8 (zs.take l)).length + (lits (H := H) .u8 (zs.drop l)).length) * P.bytesOf b ∈ (DataW.slice elems spare).weights P t := by
    simp only [DataW.weights, hu, List.mem_cons, List.mem_append]
    exact Or.inr (Or.inl (all_mem hn elems hm))
  have h4 := List.all_eq_true.1 hsz _ (DataW.weights_mem_each ht hd _ h3)
  rw [hb, Nat.mul_one] at h4
  have h5 : (lits (H := H) .u8 (zs.take l)).length + (lits (H := H) .u8 (zs.drop l)).length = zs.length := by
    simp [lits]; omega
  rw [h5] at h4
  have h6 : zs.length ≤ reachBytes := by simpa using h4
  exact Nat.le_trans hl (Nat.le_trans h6 (by decide))
end Go.Proofs.Ytoeaoanaefipaaa.Sz
