/-
  No cell of these rows narrows 'for every input' (looked for: loops, veiled, ifaces, maps, wideKeys, modest, calm, conditions, laid).
  DERIVED. THE GIVEN ROWS OF THIS SEAT. 4 by the template 'for every input the law returns true; each argument reads behind the call as it read before'; 0 by the template 'total and deterministic' (their statements: YtecekplcahllhaaTotals.lean).
  GIVEN WITH THE SEED: the statements are not yours to turn. If you find one false, say at which input.
  Laid BY PROGRAM, IN A SANDBOX (cutbox-rows.mjs): the forced cells as the released guide's own fill.sh prints them over the translation 9adeb46aab6617a1… (all of the seat's roots in one cut). By AI agents, Wed Nov 11 2026. No macro, syntax, notation, axiom, sorry.
-/
import Derived.Test.YtecekplcahllhaaChecked
import GoSem.Claim
import GoSem.ClaimJoined
import GoSem.ClaimMapViews
import Derived.JoinedTies
import Derived.KernelRfl
namespace Go.Proofs.Ytecekplcahllhaa
/- THE CELL 'sum', in the pinned program and in every row, IS THE sha256 OF THE DUMP (.gsa) THAT YtecekplcahllhaaProg.lean LOADS. Nothing in Lean hashes anything: it is a label: what it is worth is what the hold of that sum in a sandbox is worth. -/
noncomputable def Try.pinned : Pinned := { name := "ytecekplcahllhaa", sum := "9adeb46aab6617a125e1178b8c9c2dd2969cad7855e1d5f8e0a82061edccd313", checked := Try.checked }
namespace Rows
def none {H : Type} : Left H := { results := [], args := [] }

/-- 'carillonlaw18.OscSlow': WHATEVER THE INPUT: true; the input reads as it did. -/
def oscSlowSpec : ChangeSpec := { name := "oscSlow", fn := fun _ => fun
  | [d1, d2, d3] => { results := [.lit (.bool true)], args := [d1, d2, d3] }
  | _ => none }
def oscSlowRow : OpenClaim := { program := "ytecekplcahllhaa", sum := "9adeb46aab6617a125e1178b8c9c2dd2969cad7855e1d5f8e0a82061edccd313", func := "carillon/carillonlaw18.OscSlow", spec := "oscSlow", unfollowed := true, recurses := true, apart := false }
def OscSlowSaid : Prop := oscSlowRow.holds Try.pinned (OpenSpec.ofChange oscSlowSpec)

/-- ITS FALSE NEIGHBOUR: 'it returns false'. Refute it at one input. -/
def oscSlowWrong : ChangeSpec := { name := "oscSlow", fn := fun _ => fun
  | [d1, d2, d3] => { results := [.lit (.bool false)], args := [d1, d2, d3] }
  | _ => none }
def OscSlowWrongFalsely : Prop := oscSlowRow.holds Try.pinned (OpenSpec.ofChange oscSlowWrong)

/-- 'carillonlaw18.OscPays': WHATEVER THE INPUT: true; the input reads as it did. -/
def oscPaysSpec : ChangeSpec := { name := "oscPays", fn := fun _ => fun
  | [d1, d2, d3] => { results := [.lit (.bool true)], args := [d1, d2, d3] }
  | _ => none }
def oscPaysRow : OpenClaim := { program := "ytecekplcahllhaa", sum := "9adeb46aab6617a125e1178b8c9c2dd2969cad7855e1d5f8e0a82061edccd313", func := "carillon/carillonlaw18.OscPays", spec := "oscPays", unfollowed := true, recurses := true, apart := false }
def OscPaysSaid : Prop := oscPaysRow.holds Try.pinned (OpenSpec.ofChange oscPaysSpec)

/-- ITS FALSE NEIGHBOUR: 'it returns false'. Refute it at one input. -/
def oscPaysWrong : ChangeSpec := { name := "oscPays", fn := fun _ => fun
  | [d1, d2, d3] => { results := [.lit (.bool false)], args := [d1, d2, d3] }
  | _ => none }
def OscPaysWrongFalsely : Prop := oscPaysRow.holds Try.pinned (OpenSpec.ofChange oscPaysWrong)

/-- 'carillonlaw18.OscZero': WHATEVER THE INPUT: true; the input reads as it did. -/
def oscZeroSpec : ChangeSpec := { name := "oscZero", fn := fun _ => fun
  | [d] => { results := [.lit (.bool true)], args := [d] }
  | _ => none }
def oscZeroRow : OpenClaim := { program := "ytecekplcahllhaa", sum := "9adeb46aab6617a125e1178b8c9c2dd2969cad7855e1d5f8e0a82061edccd313", func := "carillon/carillonlaw18.OscZero", spec := "oscZero", unfollowed := true, recurses := true, apart := false }
def OscZeroSaid : Prop := oscZeroRow.holds Try.pinned (OpenSpec.ofChange oscZeroSpec)

/-- ITS FALSE NEIGHBOUR: 'it returns false'. Refute it at one input. -/
def oscZeroWrong : ChangeSpec := { name := "oscZero", fn := fun _ => fun
  | [d] => { results := [.lit (.bool false)], args := [d] }
  | _ => none }
def OscZeroWrongFalsely : Prop := oscZeroRow.holds Try.pinned (OpenSpec.ofChange oscZeroWrong)

/-- 'carillonlaw18.OscPlays': WHATEVER THE INPUT: true; the input reads as it did. -/
def oscPlaysSpec : ChangeSpec := { name := "oscPlays", fn := fun _ => fun
  | [d1, d2, d3] => { results := [.lit (.bool true)], args := [d1, d2, d3] }
  | _ => none }
def oscPlaysRow : OpenClaim := { program := "ytecekplcahllhaa", sum := "9adeb46aab6617a125e1178b8c9c2dd2969cad7855e1d5f8e0a82061edccd313", func := "carillon/carillonlaw18.OscPlays", spec := "oscPlays", unfollowed := true, recurses := true, apart := false }
def OscPlaysSaid : Prop := oscPlaysRow.holds Try.pinned (OpenSpec.ofChange oscPlaysSpec)

/-- ITS FALSE NEIGHBOUR: 'it returns false'. Refute it at one input. -/
def oscPlaysWrong : ChangeSpec := { name := "oscPlays", fn := fun _ => fun
  | [d1, d2, d3] => { results := [.lit (.bool false)], args := [d1, d2, d3] }
  | _ => none }
def OscPlaysWrongFalsely : Prop := oscPlaysRow.holds Try.pinned (OpenSpec.ofChange oscPlaysWrong)

/- THE SECOND FORM. 'bulk': how many values and letters a reading holds, each counted each time it is reached (what is shared counts as often as it is met; a slice's spare places count too). A statement '..UptoSaid' is the law's where the arguments, and the package variables that the reading takes, are together of bulk at most 1048576: NARROWER than '..Said'. Prove '..Said' where nothing that the law and all that it calls make is longer than what came in: it says more and counts as full. Else prove '..UptoSaid'. A law counts once. -/
mutual
def uptoBulk {H : Type} : DataW H → Nat
  | .lit (.string bytes) => bytes.length + 1
  | .lit _ => 1
  | .nil => 1
  | .ptr d => uptoBulk d + 1
  | .slice elems spare => uptoBulkAll elems + uptoBulkAll spare + 1
  | .agg parts => uptoBulkAll parts + 1
  | .iface _ d => uptoBulk d + 1
  | .map entries => uptoBulkEntries entries + 1
  | .held _ => 1
def uptoBulkAll {H : Type} : List (DataW H) → Nat
  | [] => 0
  | d :: r => uptoBulk d + uptoBulkAll r
def uptoBulkEntries {H : Type} : List (Lit × DataW H) → Nat
  | [] => 0
  | x :: r => uptoBulkEntry x + uptoBulkEntries r
def uptoBulkEntry {H : Type} : Lit × DataW H → Nat
  | (.string bytes, d) => bytes.length + uptoBulk d + 1
  | (_, d) => uptoBulk d + 1
 end
def uptoSmall : (H : Type) → List (DataW H) → Bool := fun _ ds => decide (uptoBulkAll ds ≤ 1048576)
def OpenSpec.upto (s : _root_.Go.ChangeSpec) : _root_.Go.OpenSpec := { _root_.Go.OpenSpec.ofChange s with cond := some uptoSmall }

/-- 'carillonlaw18.OscSlow', WHERE WHAT IT READS IS OF BULK AT MOST 1048576: true; the input reads as it did. -/
def oscSlowUptoRow : OpenClaim := { program := "ytecekplcahllhaa", sum := "9adeb46aab6617a125e1178b8c9c2dd2969cad7855e1d5f8e0a82061edccd313", func := "carillon/carillonlaw18.OscSlow", spec := "oscSlow", unfollowed := true, recurses := true, apart := false, narrowed := true }
def OscSlowUptoSaid : Prop := oscSlowUptoRow.holds Try.pinned (OpenSpec.upto oscSlowSpec)

/-- 'carillonlaw18.OscPays', WHERE WHAT IT READS IS OF BULK AT MOST 1048576: true; the input reads as it did. -/
def oscPaysUptoRow : OpenClaim := { program := "ytecekplcahllhaa", sum := "9adeb46aab6617a125e1178b8c9c2dd2969cad7855e1d5f8e0a82061edccd313", func := "carillon/carillonlaw18.OscPays", spec := "oscPays", unfollowed := true, recurses := true, apart := false, narrowed := true }
def OscPaysUptoSaid : Prop := oscPaysUptoRow.holds Try.pinned (OpenSpec.upto oscPaysSpec)

/-- 'carillonlaw18.OscZero', WHERE WHAT IT READS IS OF BULK AT MOST 1048576: true; the input reads as it did. -/
def oscZeroUptoRow : OpenClaim := { program := "ytecekplcahllhaa", sum := "9adeb46aab6617a125e1178b8c9c2dd2969cad7855e1d5f8e0a82061edccd313", func := "carillon/carillonlaw18.OscZero", spec := "oscZero", unfollowed := true, recurses := true, apart := false, narrowed := true }
def OscZeroUptoSaid : Prop := oscZeroUptoRow.holds Try.pinned (OpenSpec.upto oscZeroSpec)

/-- 'carillonlaw18.OscPlays', WHERE WHAT IT READS IS OF BULK AT MOST 1048576: true; the input reads as it did. -/
def oscPlaysUptoRow : OpenClaim := { program := "ytecekplcahllhaa", sum := "9adeb46aab6617a125e1178b8c9c2dd2969cad7855e1d5f8e0a82061edccd313", func := "carillon/carillonlaw18.OscPlays", spec := "oscPlays", unfollowed := true, recurses := true, apart := false, narrowed := true }
def OscPlaysUptoSaid : Prop := oscPlaysUptoRow.holds Try.pinned (OpenSpec.upto oscPlaysSpec)

end Rows
end Go.Proofs.Ytecekplcahllhaa
