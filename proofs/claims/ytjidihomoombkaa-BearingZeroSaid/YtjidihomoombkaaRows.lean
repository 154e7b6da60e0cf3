/-
  No cell of these rows narrows 'for every input' (looked for: loops, veiled, ifaces, maps, wideKeys, modest, calm, conditions, laid).
  DERIVED. THE GIVEN ROWS OF THIS SEAT. 4 by the template 'for every input the law returns true; each argument reads behind the call as it read before'; 0 by the template 'total and deterministic' (their statements: YtjidihomoombkaaTotals.lean).
  GIVEN WITH THE SEED: the statements are not yours to turn. If you find one false, say at which input.
  Laid BY PROGRAM, IN A SANDBOX (cutbox-rows.mjs): the forced cells as the released guide's own fill.sh prints them over the translation 0cffb5d8c7ce94ee… (all of the seat's roots in one cut). By AI agents, Wed Nov 11 2026. No macro, syntax, notation, axiom, sorry.
-/
import Derived.Test.YtjidihomoombkaaChecked
import GoSem.Claim
import GoSem.ClaimJoined
import GoSem.ClaimMapViews
import Derived.JoinedTies
import Derived.KernelRfl
namespace Go.Proofs.Ytjidihomoombkaa
/- THE CELL 'sum', in the pinned program and in every row, IS THE sha256 OF THE DUMP (.gsa) THAT YtjidihomoombkaaProg.lean LOADS. Nothing in Lean hashes anything: it is a label: what it is worth is what the hold of that sum in a sandbox is worth. -/
noncomputable def Try.pinned : Pinned := { name := "ytjidihomoombkaa", sum := "0cffb5d8c7ce94eee7e53628425bdc846209426ef14b0a88cffc32c6fb97fd98", checked := Try.checked }
namespace Rows
def none {H : Type} : Left H := { results := [], args := [] }

/-- 'carillonlaw24.BearingTrue': WHATEVER THE INPUT: true; the input reads as it did. -/
def bearingTrueSpec : ChangeSpec := { name := "bearingTrue", fn := fun _ => fun
  | [d1, d2, d3, d4, d5] => { results := [.lit (.bool true)], args := [d1, d2, d3, d4, d5] }
  | _ => none }
def bearingTrueRow : OpenClaim := { program := "ytjidihomoombkaa", sum := "0cffb5d8c7ce94eee7e53628425bdc846209426ef14b0a88cffc32c6fb97fd98", func := "carillon/carillonlaw24.BearingTrue", spec := "bearingTrue", unfollowed := true, recurses := true, apart := false }
def BearingTrueSaid : Prop := bearingTrueRow.holds Try.pinned (OpenSpec.ofChange bearingTrueSpec)

/-- ITS FALSE NEIGHBOUR: 'it returns false'. Refute it at one input. -/
def bearingTrueWrong : ChangeSpec := { name := "bearingTrue", fn := fun _ => fun
  | [d1, d2, d3, d4, d5] => { results := [.lit (.bool false)], args := [d1, d2, d3, d4, d5] }
  | _ => none }
def BearingTrueWrongFalsely : Prop := bearingTrueRow.holds Try.pinned (OpenSpec.ofChange bearingTrueWrong)

/-- 'carillonlaw24.BearingNear': WHATEVER THE INPUT: true; the input reads as it did. -/
def bearingNearSpec : ChangeSpec := { name := "bearingNear", fn := fun _ => fun
  | [d1, d2] => { results := [.lit (.bool true)], args := [d1, d2] }
  | _ => none }
def bearingNearRow : OpenClaim := { program := "ytjidihomoombkaa", sum := "0cffb5d8c7ce94eee7e53628425bdc846209426ef14b0a88cffc32c6fb97fd98", func := "carillon/carillonlaw24.BearingNear", spec := "bearingNear", unfollowed := true, recurses := true, apart := false }
def BearingNearSaid : Prop := bearingNearRow.holds Try.pinned (OpenSpec.ofChange bearingNearSpec)

/-- ITS FALSE NEIGHBOUR: 'it returns false'. Refute it at one input. -/
def bearingNearWrong : ChangeSpec := { name := "bearingNear", fn := fun _ => fun
  | [d1, d2] => { results := [.lit (.bool false)], args := [d1, d2] }
  | _ => none }
def BearingNearWrongFalsely : Prop := bearingNearRow.holds Try.pinned (OpenSpec.ofChange bearingNearWrong)

/-- 'carillonlaw24.BearingZero': WHATEVER THE INPUT: true; the input reads as it did. -/
def bearingZeroSpec : ChangeSpec := { name := "bearingZero", fn := fun _ => fun
  | [d] => { results := [.lit (.bool true)], args := [d] }
  | _ => none }
def bearingZeroRow : OpenClaim := { program := "ytjidihomoombkaa", sum := "0cffb5d8c7ce94eee7e53628425bdc846209426ef14b0a88cffc32c6fb97fd98", func := "carillon/carillonlaw24.BearingZero", spec := "bearingZero", unfollowed := true, recurses := true, apart := false }
def BearingZeroSaid : Prop := bearingZeroRow.holds Try.pinned (OpenSpec.ofChange bearingZeroSpec)

/-- ITS FALSE NEIGHBOUR: 'it returns false'. Refute it at one input. -/
def bearingZeroWrong : ChangeSpec := { name := "bearingZero", fn := fun _ => fun
  | [d] => { results := [.lit (.bool false)], args := [d] }
  | _ => none }
def BearingZeroWrongFalsely : Prop := bearingZeroRow.holds Try.pinned (OpenSpec.ofChange bearingZeroWrong)

/-- 'carillonlaw24.BearingPlays': WHATEVER THE INPUT: true; the input reads as it did. -/
def bearingPlaysSpec : ChangeSpec := { name := "bearingPlays", fn := fun _ => fun
  | [d1, d2, d3, d4, d5, d6] => { results := [.lit (.bool true)], args := [d1, d2, d3, d4, d5, d6] }
  | _ => none }
def bearingPlaysRow : OpenClaim := { program := "ytjidihomoombkaa", sum := "0cffb5d8c7ce94eee7e53628425bdc846209426ef14b0a88cffc32c6fb97fd98", func := "carillon/carillonlaw24.BearingPlays", spec := "bearingPlays", unfollowed := true, recurses := true, apart := false }
def BearingPlaysSaid : Prop := bearingPlaysRow.holds Try.pinned (OpenSpec.ofChange bearingPlaysSpec)

/-- ITS FALSE NEIGHBOUR: 'it returns false'. Refute it at one input. -/
def bearingPlaysWrong : ChangeSpec := { name := "bearingPlays", fn := fun _ => fun
  | [d1, d2, d3, d4, d5, d6] => { results := [.lit (.bool false)], args := [d1, d2, d3, d4, d5, d6] }
  | _ => none }
def BearingPlaysWrongFalsely : Prop := bearingPlaysRow.holds Try.pinned (OpenSpec.ofChange bearingPlaysWrong)

/- THE SECOND FORM. 'bulk': how many values and letters a reading holds, each counted each time it is reached (what is shared counts as often as it is met; a slice's spare places count too). A statement '..UptoSaid' is the law's where the arguments, and the package variables that the reading takes, are together of bulk at most 1048576: NARROWER than '..Said'. Prove '..Said' where nothing that the law and all that it calls make is longer than what came in: it says more and counts as full. Else prove '..UptoSaid'. A law counts once. -/
mutual
def uptoBulk {H : Type} : DataW H → Nat
  | .lit (.string bytes) => bytes.length + 1
  | .lit _ => 1
  | .nil => 1
  | .ptr d => uptoBulk d + 1
  | .slice elems spare => uptoBulkAll elems + uptoBulkAll spare + 1
  | .agg parts => uptoBulkAll parts + 1
  | .iface _ d => uptoBulk d + 1
  | .map entries => uptoBulkEntries entries + 1
  | .held _ => 1
def uptoBulkAll {H : Type} : List (DataW H) → Nat
  | [] => 0
  | d :: r => uptoBulk d + uptoBulkAll r
def uptoBulkEntries {H : Type} : List (Lit × DataW H) → Nat
  | [] => 0
  | x :: r => uptoBulkEntry x + uptoBulkEntries r
def uptoBulkEntry {H : Type} : Lit × DataW H → Nat
  | (.string bytes, d) => bytes.length + uptoBulk d + 1
  | (_, d) => uptoBulk d + 1
 end
def uptoSmall : (H : Type) → List (DataW H) → Bool := fun _ ds => decide (uptoBulkAll ds ≤ 1048576)
def OpenSpec.upto (s : _root_.Go.ChangeSpec) : _root_.Go.OpenSpec := { _root_.Go.OpenSpec.ofChange s with cond := some uptoSmall }

/-- 'carillonlaw24.BearingTrue', WHERE WHAT IT READS IS OF BULK AT MOST 1048576: true; the input reads as it did. -/
def bearingTrueUptoRow : OpenClaim := { program := "ytjidihomoombkaa", sum := "0cffb5d8c7ce94eee7e53628425bdc846209426ef14b0a88cffc32c6fb97fd98", func := "carillon/carillonlaw24.BearingTrue", spec := "bearingTrue", unfollowed := true, recurses := true, apart := false, narrowed := true }
def BearingTrueUptoSaid : Prop := bearingTrueUptoRow.holds Try.pinned (OpenSpec.upto bearingTrueSpec)

/-- 'carillonlaw24.BearingNear', WHERE WHAT IT READS IS OF BULK AT MOST 1048576: true; the input reads as it did. -/
def bearingNearUptoRow : OpenClaim := { program := "ytjidihomoombkaa", sum := "0cffb5d8c7ce94eee7e53628425bdc846209426ef14b0a88cffc32c6fb97fd98", func := "carillon/carillonlaw24.BearingNear", spec := "bearingNear", unfollowed := true, recurses := true, apart := false, narrowed := true }
def BearingNearUptoSaid : Prop := bearingNearUptoRow.holds Try.pinned (OpenSpec.upto bearingNearSpec)

/-- 'carillonlaw24.BearingZero', WHERE WHAT IT READS IS OF BULK AT MOST 1048576: true; the input reads as it did. -/
def bearingZeroUptoRow : OpenClaim := { program := "ytjidihomoombkaa", sum := "0cffb5d8c7ce94eee7e53628425bdc846209426ef14b0a88cffc32c6fb97fd98", func := "carillon/carillonlaw24.BearingZero", spec := "bearingZero", unfollowed := true, recurses := true, apart := false, narrowed := true }
def BearingZeroUptoSaid : Prop := bearingZeroUptoRow.holds Try.pinned (OpenSpec.upto bearingZeroSpec)

/-- 'carillonlaw24.BearingPlays', WHERE WHAT IT READS IS OF BULK AT MOST 1048576: true; the input reads as it did. -/
def bearingPlaysUptoRow : OpenClaim := { program := "ytjidihomoombkaa", sum := "0cffb5d8c7ce94eee7e53628425bdc846209426ef14b0a88cffc32c6fb97fd98", func := "carillon/carillonlaw24.BearingPlays", spec := "bearingPlays", unfollowed := true, recurses := true, apart := false, narrowed := true }
def BearingPlaysUptoSaid : Prop := bearingPlaysUptoRow.holds Try.pinned (OpenSpec.upto bearingPlaysSpec)

end Rows
end Go.Proofs.Ytjidihomoombkaa
