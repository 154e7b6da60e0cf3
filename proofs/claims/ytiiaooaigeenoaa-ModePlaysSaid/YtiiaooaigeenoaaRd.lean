/- How slices lie in memory. -/
import Derived.WalkKit
namespace Go.Proofs.Ytiiaooaigeenoaa.Rd
set_option linter.unusedVariables false

/-- A slice of bools that lies in memory. -/
def BoolsAt (W : World) (A : Option Addr) (l : List Bool) : Prop := ∀ i : Nat, i < l.length → ∃ a, A = some a ∧ W.cell? (a.add i) = some (.bool (l.getD i false))
/-- A slice of rows of F numbers that lies in memory. -/
def IntsAt (W : World) (A : Option Addr) (k : IntKind) (F n : Nat) (x : Nat → Nat → Int) : Prop := ∀ i : Nat, i < n → ∃ a, A = some a ∧ ∀ j, j < F → W.cell? (a.add (i * F + j)) = some (.int k (x i j))
/-- A slice of byte slices that lies in memory. -/
def BytesAt (W : World) (A : Option Addr) (n : Nat) (s : Nat → Option Addr) (cp : Nat → Nat) (b : Nat → List Int) : Prop :=
  ∀ i : Nat, i < n → (∃ a, A = some a ∧ W.cell? (a.add i) = some (.slice (s i) (b i).length (cp i))) ∧ (b i).length ≤ cp i ∧ cp i ≤ maxLen ∧ (∀ x ∈ b i, 0 ≤ x ∧ x ≤ 255) ∧
    ((s i = none ∧ b i = [] ∧ cp i = 0) ∨ ∃ a, s i = some a ∧ ∀ j, j < (b i).length → W.cell? (a.add j) = some (.int .u8 ((b i).getD j 0)))

end Go.Proofs.Ytiiaooaigeenoaa.Rd
