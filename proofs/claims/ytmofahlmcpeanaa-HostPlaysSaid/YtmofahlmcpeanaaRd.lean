/- How slices lie in memory. -/
import Derived.WalkKit
import Derived.Test.YtmofahlmcpeanaaWWords
namespace Go.Proofs.Ytmofahlmcpeanaa.Rd
open Go.RowKit Go.Proofs.YtmofahlmcpeanaaW.PrintWords
set_option linter.unusedVariables false

/-- A slice of bools that lies in memory. -/
def BoolsAt (W : World) (A : Option Addr) (l : List Bool) : Prop := ∀ i : Nat, i < l.length → ∃ a, A = some a ∧ W.cell? (a.add i) = some (.bool (l.getD i false))
/-- A slice of rows of F numbers that lies in memory. -/
def IntsAt (W : World) (A : Option Addr) (k : IntKind) (F n : Nat) (x : Nat → Nat → Int) : Prop := ∀ i : Nat, i < n → ∃ a, A = some a ∧ ∀ j, j < F → W.cell? (a.add (i * F + j)) = some (.int k (x i j))
/-- A slice of byte slices that lies in memory. -/
def BytesAt (W : World) (A : Option Addr) (n : Nat) (s : Nat → Option Addr) (cp : Nat → Nat) (b : Nat → List Int) : Prop :=
  ∀ i : Nat, i < n → (∃ a, A = some a ∧ W.cell? (a.add i) = some (.slice (s i) (b i).length (cp i))) ∧ Kd.C (Kd.int .u8) W (s i) (b i).length (b i) ∧ (b i).length ≤ cp i ∧ (b i).length ≤ maxLen ∧ (∀ x ∈ b i, (Lit.int .u8 x).wf = true)

end Go.Proofs.Ytmofahlmcpeanaa.Rd
