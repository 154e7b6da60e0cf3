/-
  No cell of these rows narrows 'for every input' (looked for: loops, veiled, ifaces, maps, wideKeys, modest, calm, conditions, laid).
  DERIVED. THE GIVEN ROWS OF THIS SEAT. 4 by the template 'for every input the law returns true; each argument reads behind the call as it read before'; 0 by the template 'total and deterministic' (their statements: YtoeaoanaefipaaaTotals.lean).
  GIVEN WITH THE SEED: the statements are not yours to turn. If you find one false, say at which input.
  Laid BY PROGRAM, IN A SANDBOX (cutbox-rows.mjs): the forced cells as the released guide's own fill.sh prints them over the translation 9ec4fbe653c22249… (all of the seat's roots in one cut). By AI agents, Wed Nov 11 2026. No macro, syntax, notation, axiom, sorry.
-/
import Derived.Test.YtoeaoanaefipaaaChecked
import GoSem.Claim
import GoSem.ClaimJoined
import GoSem.ClaimMapViews
import Derived.JoinedTies
import Derived.KernelRfl
namespace Go.Proofs.Ytoeaoanaefipaaa
/- THE CELL 'sum', in the pinned program and in every row, IS THE sha256 OF THE DUMP (.gsa) THAT YtoeaoanaefipaaaProg.lean LOADS. Nothing in Lean hashes anything: it is a label: what it is worth is what the hold of that sum in a sandbox is worth. -/
noncomputable def Try.pinned : Pinned := { name := "ytoeaoanaefipaaa", sum := "9ec4fbe653c222498cfd286ce4292a3104d39b8cd25e45d157cf197438a739fd", checked := Try.checked }
namespace Rows
def none {H : Type} : Left H := { results := [], args := [] }

/-- 'carillonlaw20.BufferFlood': WHATEVER THE INPUT: true; the input reads as it did. -/
def bufferFloodSpec : ChangeSpec := { name := "bufferFlood", fn := fun _ => fun
  | [d1, d2, d3] => { results := [.lit (.bool true)], args := [d1, d2, d3] }
  | _ => none }
def bufferFloodRow : OpenClaim := { program := "ytoeaoanaefipaaa", sum := "9ec4fbe653c222498cfd286ce4292a3104d39b8cd25e45d157cf197438a739fd", func := "carillon/carillonlaw20.BufferFlood", spec := "bufferFlood", unfollowed := true, recurses := true, plainKeys := false, apart := false }
def BufferFloodSaid : Prop := bufferFloodRow.holds Try.pinned (OpenSpec.ofChange bufferFloodSpec)

/-- ITS FALSE NEIGHBOUR: 'it returns false'. Refute it at one input. -/
def bufferFloodWrong : ChangeSpec := { name := "bufferFlood", fn := fun _ => fun
  | [d1, d2, d3] => { results := [.lit (.bool false)], args := [d1, d2, d3] }
  | _ => none }
def BufferFloodWrongFalsely : Prop := bufferFloodRow.holds Try.pinned (OpenSpec.ofChange bufferFloodWrong)

/-- 'carillonlaw20.BufferOrder': WHATEVER THE INPUT: true; the input reads as it did. -/
def bufferOrderSpec : ChangeSpec := { name := "bufferOrder", fn := fun _ => fun
  | [d1, d2, d3] => { results := [.lit (.bool true)], args := [d1, d2, d3] }
  | _ => none }
def bufferOrderRow : OpenClaim := { program := "ytoeaoanaefipaaa", sum := "9ec4fbe653c222498cfd286ce4292a3104d39b8cd25e45d157cf197438a739fd", func := "carillon/carillonlaw20.BufferOrder", spec := "bufferOrder", unfollowed := true, recurses := true, plainKeys := false, apart := false }
def BufferOrderSaid : Prop := bufferOrderRow.holds Try.pinned (OpenSpec.ofChange bufferOrderSpec)

/-- ITS FALSE NEIGHBOUR: 'it returns false'. Refute it at one input. -/
def bufferOrderWrong : ChangeSpec := { name := "bufferOrder", fn := fun _ => fun
  | [d1, d2, d3] => { results := [.lit (.bool false)], args := [d1, d2, d3] }
  | _ => none }
def BufferOrderWrongFalsely : Prop := bufferOrderRow.holds Try.pinned (OpenSpec.ofChange bufferOrderWrong)

/-- 'carillonlaw20.BufferZero': WHATEVER THE INPUT: true; the input reads as it did. -/
def bufferZeroSpec : ChangeSpec := { name := "bufferZero", fn := fun _ => fun
  | [d] => { results := [.lit (.bool true)], args := [d] }
  | _ => none }
def bufferZeroRow : OpenClaim := { program := "ytoeaoanaefipaaa", sum := "9ec4fbe653c222498cfd286ce4292a3104d39b8cd25e45d157cf197438a739fd", func := "carillon/carillonlaw20.BufferZero", spec := "bufferZero", unfollowed := true, recurses := true, plainKeys := false, apart := false }
def BufferZeroSaid : Prop := bufferZeroRow.holds Try.pinned (OpenSpec.ofChange bufferZeroSpec)

/-- ITS FALSE NEIGHBOUR: 'it returns false'. Refute it at one input. -/
def bufferZeroWrong : ChangeSpec := { name := "bufferZero", fn := fun _ => fun
  | [d] => { results := [.lit (.bool false)], args := [d] }
  | _ => none }
def BufferZeroWrongFalsely : Prop := bufferZeroRow.holds Try.pinned (OpenSpec.ofChange bufferZeroWrong)

/-- 'carillonlaw20.BufferPlays': WHATEVER THE INPUT: true; the input reads as it did. -/
def bufferPlaysSpec : ChangeSpec := { name := "bufferPlays", fn := fun _ => fun
  | [d1, d2, d3, d4] => { results := [.lit (.bool true)], args := [d1, d2, d3, d4] }
  | _ => none }
def bufferPlaysRow : OpenClaim := { program := "ytoeaoanaefipaaa", sum := "9ec4fbe653c222498cfd286ce4292a3104d39b8cd25e45d157cf197438a739fd", func := "carillon/carillonlaw20.BufferPlays", spec := "bufferPlays", unfollowed := true, recurses := true, plainKeys := false, apart := false }
def BufferPlaysSaid : Prop := bufferPlaysRow.holds Try.pinned (OpenSpec.ofChange bufferPlaysSpec)

/-- ITS FALSE NEIGHBOUR: 'it returns false'. Refute it at one input. -/
def bufferPlaysWrong : ChangeSpec := { name := "bufferPlays", fn := fun _ => fun
  | [d1, d2, d3, d4] => { results := [.lit (.bool false)], args := [d1, d2, d3, d4] }
  | _ => none }
def BufferPlaysWrongFalsely : Prop := bufferPlaysRow.holds Try.pinned (OpenSpec.ofChange bufferPlaysWrong)

/- THE SECOND FORM. 'bulk': how many values and letters a reading holds, each counted each time it is reached (what is shared counts as often as it is met; a slice's spare places count too). A statement '..UptoSaid' is the law's where the arguments, and the package variables that the reading takes, are together of bulk at most 1048576: NARROWER than '..Said'. Prove '..Said' where nothing that the law and all that it calls make is longer than what came in: it says more and counts as full. Else prove '..UptoSaid'. A law counts once. -/
mutual
def uptoBulk {H : Type} : DataW H → Nat
  | .lit (.string bytes) => bytes.length + 1
  | .lit _ => 1
  | .nil => 1
  | .ptr d => uptoBulk d + 1
  | .slice elems spare => uptoBulkAll elems + uptoBulkAll spare + 1
  | .agg parts => uptoBulkAll parts + 1
  | .iface _ d => uptoBulk d + 1
  | .map entries => uptoBulkEntries entries + 1
  | .held _ => 1
def uptoBulkAll {H : Type} : List (DataW H) → Nat
  | [] => 0
  | d :: r => uptoBulk d + uptoBulkAll r
def uptoBulkEntries {H : Type} : List (Lit × DataW H) → Nat
  | [] => 0
  | x :: r => uptoBulkEntry x + uptoBulkEntries r
def uptoBulkEntry {H : Type} : Lit × DataW H → Nat
  | (.string bytes, d) => bytes.length + uptoBulk d + 1
  | (_, d) => uptoBulk d + 1
 end
def uptoSmall : (H : Type) → List (DataW H) → Bool := fun _ ds => decide (uptoBulkAll ds ≤ 1048576)
def OpenSpec.upto (s : _root_.Go.ChangeSpec) : _root_.Go.OpenSpec := { _root_.Go.OpenSpec.ofChange s with cond := some uptoSmall }

/-- 'carillonlaw20.BufferFlood', WHERE WHAT IT READS IS OF BULK AT MOST 1048576: true; the input reads as it did. -/
def bufferFloodUptoRow : OpenClaim := { program := "ytoeaoanaefipaaa", sum := "9ec4fbe653c222498cfd286ce4292a3104d39b8cd25e45d157cf197438a739fd", func := "carillon/carillonlaw20.BufferFlood", spec := "bufferFlood", unfollowed := true, recurses := true, plainKeys := false, apart := false, narrowed := true }
def BufferFloodUptoSaid : Prop := bufferFloodUptoRow.holds Try.pinned (OpenSpec.upto bufferFloodSpec)

/-- 'carillonlaw20.BufferOrder', WHERE WHAT IT READS IS OF BULK AT MOST 1048576: true; the input reads as it did. -/
def bufferOrderUptoRow : OpenClaim := { program := "ytoeaoanaefipaaa", sum := "9ec4fbe653c222498cfd286ce4292a3104d39b8cd25e45d157cf197438a739fd", func := "carillon/carillonlaw20.BufferOrder", spec := "bufferOrder", unfollowed := true, recurses := true, plainKeys := false, apart := false, narrowed := true }
def BufferOrderUptoSaid : Prop := bufferOrderUptoRow.holds Try.pinned (OpenSpec.upto bufferOrderSpec)

/-- 'carillonlaw20.BufferZero', WHERE WHAT IT READS IS OF BULK AT MOST 1048576: true; the input reads as it did. -/
def bufferZeroUptoRow : OpenClaim := { program := "ytoeaoanaefipaaa", sum := "9ec4fbe653c222498cfd286ce4292a3104d39b8cd25e45d157cf197438a739fd", func := "carillon/carillonlaw20.BufferZero", spec := "bufferZero", unfollowed := true, recurses := true, plainKeys := false, apart := false, narrowed := true }
def BufferZeroUptoSaid : Prop := bufferZeroUptoRow.holds Try.pinned (OpenSpec.upto bufferZeroSpec)

/-- 'carillonlaw20.BufferPlays', WHERE WHAT IT READS IS OF BULK AT MOST 1048576: true; the input reads as it did. -/
def bufferPlaysUptoRow : OpenClaim := { program := "ytoeaoanaefipaaa", sum := "9ec4fbe653c222498cfd286ce4292a3104d39b8cd25e45d157cf197438a739fd", func := "carillon/carillonlaw20.BufferPlays", spec := "bufferPlays", unfollowed := true, recurses := true, plainKeys := false, apart := false, narrowed := true }
def BufferPlaysUptoSaid : Prop := bufferPlaysUptoRow.holds Try.pinned (OpenSpec.upto bufferPlaysSpec)

end Rows
end Go.Proofs.Ytoeaoanaefipaaa
