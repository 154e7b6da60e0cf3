/-
  No cell of these rows narrows 'for every input' (looked for: loops, veiled, ifaces, maps, wideKeys, modest, calm, conditions, laid).
  DERIVED. THE GIVEN ROWS OF THIS SEAT. 4 by the template 'for every input the law returns true; each argument reads behind the call as it read before'; 0 by the template 'total and deterministic' (their statements: YtifliiplejbdfaaTotals.lean).
  GIVEN WITH THE SEED: the statements are not yours to turn. If you find one false, say at which input.
  Laid BY PROGRAM, IN A SANDBOX (cutbox-rows.mjs): the forced cells as the released guide's own fill.sh prints them over the translation 63a4b9888cccdfef… (all of the seat's roots in one cut). By AI agents, Wed Nov 11 2026. No macro, syntax, notation, axiom, sorry.
-/
import Derived.Test.YtifliiplejbdfaaChecked
import GoSem.Claim
import GoSem.ClaimJoined
import GoSem.ClaimMapViews
import Derived.JoinedTies
import Derived.KernelRfl
namespace Go.Proofs.Ytifliiplejbdfaa
/- THE CELL 'sum', in the pinned program and in every row, IS THE sha256 OF THE DUMP (.gsa) THAT YtifliiplejbdfaaProg.lean LOADS. Nothing in Lean hashes anything: it is a label: what it is worth is what the hold of that sum in a sandbox is worth. -/
noncomputable def Try.pinned : Pinned := { name := "ytifliiplejbdfaa", sum := "63a4b9888cccdfef41c439777e8a3479341e7a749ba03e1d4160212c0772f7bc", checked := Try.checked }
namespace Rows
def none {H : Type} : Left H := { results := [], args := [] }

/-- 'carillonlaw07.RateBeats': WHATEVER THE INPUT: true; the input reads as it did. -/
def rateBeatsSpec : ChangeSpec := { name := "rateBeats", fn := fun _ => fun
  | [d1, d2] => { results := [.lit (.bool true)], args := [d1, d2] }
  | _ => none }
def rateBeatsRow : OpenClaim := { program := "ytifliiplejbdfaa", sum := "63a4b9888cccdfef41c439777e8a3479341e7a749ba03e1d4160212c0772f7bc", func := "carillon/carillonlaw07.RateBeats", spec := "rateBeats", apart := false }
def RateBeatsSaid : Prop := rateBeatsRow.holds Try.pinned (OpenSpec.ofChange rateBeatsSpec)

/-- ITS FALSE NEIGHBOUR: 'it returns false'. Refute it at one input. -/
def rateBeatsWrong : ChangeSpec := { name := "rateBeats", fn := fun _ => fun
  | [d1, d2] => { results := [.lit (.bool false)], args := [d1, d2] }
  | _ => none }
def RateBeatsWrongFalsely : Prop := rateBeatsRow.holds Try.pinned (OpenSpec.ofChange rateBeatsWrong)

/-- 'carillonlaw07.RateHolds': WHATEVER THE INPUT: true; the input reads as it did. -/
def rateHoldsSpec : ChangeSpec := { name := "rateHolds", fn := fun _ => fun
  | [d1, d2, d3] => { results := [.lit (.bool true)], args := [d1, d2, d3] }
  | _ => none }
def rateHoldsRow : OpenClaim := { program := "ytifliiplejbdfaa", sum := "63a4b9888cccdfef41c439777e8a3479341e7a749ba03e1d4160212c0772f7bc", func := "carillon/carillonlaw07.RateHolds", spec := "rateHolds", apart := false }
def RateHoldsSaid : Prop := rateHoldsRow.holds Try.pinned (OpenSpec.ofChange rateHoldsSpec)

/-- ITS FALSE NEIGHBOUR: 'it returns false'. Refute it at one input. -/
def rateHoldsWrong : ChangeSpec := { name := "rateHolds", fn := fun _ => fun
  | [d1, d2, d3] => { results := [.lit (.bool false)], args := [d1, d2, d3] }
  | _ => none }
def RateHoldsWrongFalsely : Prop := rateHoldsRow.holds Try.pinned (OpenSpec.ofChange rateHoldsWrong)

/-- 'carillonlaw07.RateMore': WHATEVER THE INPUT: true; the input reads as it did. -/
def rateMoreSpec : ChangeSpec := { name := "rateMore", fn := fun _ => fun
  | [d1, d2, d3, d4] => { results := [.lit (.bool true)], args := [d1, d2, d3, d4] }
  | _ => none }
def rateMoreRow : OpenClaim := { program := "ytifliiplejbdfaa", sum := "63a4b9888cccdfef41c439777e8a3479341e7a749ba03e1d4160212c0772f7bc", func := "carillon/carillonlaw07.RateMore", spec := "rateMore", apart := false }
def RateMoreSaid : Prop := rateMoreRow.holds Try.pinned (OpenSpec.ofChange rateMoreSpec)

/-- ITS FALSE NEIGHBOUR: 'it returns false'. Refute it at one input. -/
def rateMoreWrong : ChangeSpec := { name := "rateMore", fn := fun _ => fun
  | [d1, d2, d3, d4] => { results := [.lit (.bool false)], args := [d1, d2, d3, d4] }
  | _ => none }
def RateMoreWrongFalsely : Prop := rateMoreRow.holds Try.pinned (OpenSpec.ofChange rateMoreWrong)

/-- 'carillonlaw07.RateAll': WHATEVER THE INPUT: true; the input reads as it did. -/
def rateAllSpec : ChangeSpec := { name := "rateAll", fn := fun _ => fun
  | [d1, d2] => { results := [.lit (.bool true)], args := [d1, d2] }
  | _ => none }
def rateAllRow : OpenClaim := { program := "ytifliiplejbdfaa", sum := "63a4b9888cccdfef41c439777e8a3479341e7a749ba03e1d4160212c0772f7bc", func := "carillon/carillonlaw07.RateAll", spec := "rateAll", apart := false }
def RateAllSaid : Prop := rateAllRow.holds Try.pinned (OpenSpec.ofChange rateAllSpec)

/-- ITS FALSE NEIGHBOUR: 'it returns false'. Refute it at one input. -/
def rateAllWrong : ChangeSpec := { name := "rateAll", fn := fun _ => fun
  | [d1, d2] => { results := [.lit (.bool false)], args := [d1, d2] }
  | _ => none }
def RateAllWrongFalsely : Prop := rateAllRow.holds Try.pinned (OpenSpec.ofChange rateAllWrong)

/- THE SECOND FORM. 'bulk': how many values and letters a reading holds, each counted each time it is reached (what is shared counts as often as it is met; a slice's spare places count too). A statement '..UptoSaid' is the law's where the arguments, and the package variables that the reading takes, are together of bulk at most 1048576: NARROWER than '..Said'. Prove '..Said' where nothing that the law and all that it calls make is longer than what came in: it says more and counts as full. Else prove '..UptoSaid'. A law counts once. -/
mutual
def uptoBulk {H : Type} : DataW H → Nat
  | .lit (.string bytes) => bytes.length + 1
  | .lit _ => 1
  | .nil => 1
  | .ptr d => uptoBulk d + 1
  | .slice elems spare => uptoBulkAll elems + uptoBulkAll spare + 1
  | .agg parts => uptoBulkAll parts + 1
  | .iface _ d => uptoBulk d + 1
  | .map entries => uptoBulkEntries entries + 1
  | .held _ => 1
def uptoBulkAll {H : Type} : List (DataW H) → Nat
  | [] => 0
  | d :: r => uptoBulk d + uptoBulkAll r
def uptoBulkEntries {H : Type} : List (Lit × DataW H) → Nat
  | [] => 0
  | x :: r => uptoBulkEntry x + uptoBulkEntries r
def uptoBulkEntry {H : Type} : Lit × DataW H → Nat
  | (.string bytes, d) => bytes.length + uptoBulk d + 1
  | (_, d) => uptoBulk d + 1
 end
def uptoSmall : (H : Type) → List (DataW H) → Bool := fun _ ds => decide (uptoBulkAll ds ≤ 1048576)
def OpenSpec.upto (s : _root_.Go.ChangeSpec) : _root_.Go.OpenSpec := { _root_.Go.OpenSpec.ofChange s with cond := some uptoSmall }

/-- 'carillonlaw07.RateBeats', WHERE WHAT IT READS IS OF BULK AT MOST 1048576: true; the input reads as it did. -/
def rateBeatsUptoRow : OpenClaim := { program := "ytifliiplejbdfaa", sum := "63a4b9888cccdfef41c439777e8a3479341e7a749ba03e1d4160212c0772f7bc", func := "carillon/carillonlaw07.RateBeats", spec := "rateBeats", apart := false, narrowed := true }
def RateBeatsUptoSaid : Prop := rateBeatsUptoRow.holds Try.pinned (OpenSpec.upto rateBeatsSpec)

/-- 'carillonlaw07.RateHolds', WHERE WHAT IT READS IS OF BULK AT MOST 1048576: true; the input reads as it did. -/
def rateHoldsUptoRow : OpenClaim := { program := "ytifliiplejbdfaa", sum := "63a4b9888cccdfef41c439777e8a3479341e7a749ba03e1d4160212c0772f7bc", func := "carillon/carillonlaw07.RateHolds", spec := "rateHolds", apart := false, narrowed := true }
def RateHoldsUptoSaid : Prop := rateHoldsUptoRow.holds Try.pinned (OpenSpec.upto rateHoldsSpec)

/-- 'carillonlaw07.RateMore', WHERE WHAT IT READS IS OF BULK AT MOST 1048576: true; the input reads as it did. -/
def rateMoreUptoRow : OpenClaim := { program := "ytifliiplejbdfaa", sum := "63a4b9888cccdfef41c439777e8a3479341e7a749ba03e1d4160212c0772f7bc", func := "carillon/carillonlaw07.RateMore", spec := "rateMore", apart := false, narrowed := true }
def RateMoreUptoSaid : Prop := rateMoreUptoRow.holds Try.pinned (OpenSpec.upto rateMoreSpec)

/-- 'carillonlaw07.RateAll', WHERE WHAT IT READS IS OF BULK AT MOST 1048576: true; the input reads as it did. -/
def rateAllUptoRow : OpenClaim := { program := "ytifliiplejbdfaa", sum := "63a4b9888cccdfef41c439777e8a3479341e7a749ba03e1d4160212c0772f7bc", func := "carillon/carillonlaw07.RateAll", spec := "rateAll", apart := false, narrowed := true }
def RateAllUptoSaid : Prop := rateAllUptoRow.holds Try.pinned (OpenSpec.upto rateAllSpec)

end Rows
end Go.Proofs.Ytifliiplejbdfaa
