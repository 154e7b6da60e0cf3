/-
  No cell of these rows narrows 'for every input' (looked for: loops, veiled, ifaces, maps, wideKeys, modest, calm, conditions, laid).
  DERIVED. THE GIVEN ROWS OF THIS SEAT. 5 by the template 'for every input the law returns true; each argument reads behind the call as it read before'; 0 by the template 'total and deterministic' (their statements: YtiiaooaigeenoaaTotals.lean).
  GIVEN WITH THE SEED: the statements are not yours to turn. If you find one false, say at which input.
  Laid BY PROGRAM, IN A SANDBOX (cutbox-rows.mjs): the forced cells as the released guide's own fill.sh prints them over the translation 38adcc263a8bcd55… (all of the seat's roots in one cut). By AI agents, Wed Nov 11 2026. No macro, syntax, notation, axiom, sorry.
-/
import Derived.Test.YtiiaooaigeenoaaChecked
import GoSem.Claim
import GoSem.ClaimJoined
import GoSem.ClaimMapViews
import Derived.JoinedTies
import Derived.KernelRfl
namespace Go.Proofs.Ytiiaooaigeenoaa
/- THE CELL 'sum', in the pinned program and in every row, IS THE sha256 OF THE DUMP (.gsa) THAT YtiiaooaigeenoaaProg.lean LOADS. Nothing in Lean hashes anything: it is a label: what it is worth is what the hold of that sum in a sandbox is worth. -/
noncomputable def Try.pinned : Pinned := { name := "ytiiaooaigeenoaa", sum := "38adcc263a8bcd55d953122f92b93be17391517d041ff364ad16fd52f6a0ea30", checked := Try.checked }
namespace Rows
def none {H : Type} : Left H := { results := [], args := [] }

/-- 'carillonlaw28.ModePatience': WHATEVER THE INPUT: true; the input reads as it did. -/
def modePatienceSpec : ChangeSpec := { name := "modePatience", fn := fun _ => fun
  | [d1, d2, d3, d4] => { results := [.lit (.bool true)], args := [d1, d2, d3, d4] }
  | _ => none }
def modePatienceRow : OpenClaim := { program := "ytiiaooaigeenoaa", sum := "38adcc263a8bcd55d953122f92b93be17391517d041ff364ad16fd52f6a0ea30", func := "carillon/carillonlaw28.ModePatience", spec := "modePatience", unfollowed := true, recurses := true, apart := false }
def ModePatienceSaid : Prop := modePatienceRow.holds Try.pinned (OpenSpec.ofChange modePatienceSpec)

/-- ITS FALSE NEIGHBOUR: 'it returns false'. Refute it at one input. -/
def modePatienceWrong : ChangeSpec := { name := "modePatience", fn := fun _ => fun
  | [d1, d2, d3, d4] => { results := [.lit (.bool false)], args := [d1, d2, d3, d4] }
  | _ => none }
def ModePatienceWrongFalsely : Prop := modePatienceRow.holds Try.pinned (OpenSpec.ofChange modePatienceWrong)

/-- 'carillonlaw28.ModeUp': WHATEVER THE INPUT: true; the input reads as it did. -/
def modeUpSpec : ChangeSpec := { name := "modeUp", fn := fun _ => fun
  | [d1, d2, d3] => { results := [.lit (.bool true)], args := [d1, d2, d3] }
  | _ => none }
def modeUpRow : OpenClaim := { program := "ytiiaooaigeenoaa", sum := "38adcc263a8bcd55d953122f92b93be17391517d041ff364ad16fd52f6a0ea30", func := "carillon/carillonlaw28.ModeUp", spec := "modeUp", unfollowed := true, recurses := true, apart := false }
def ModeUpSaid : Prop := modeUpRow.holds Try.pinned (OpenSpec.ofChange modeUpSpec)

/-- ITS FALSE NEIGHBOUR: 'it returns false'. Refute it at one input. -/
def modeUpWrong : ChangeSpec := { name := "modeUp", fn := fun _ => fun
  | [d1, d2, d3] => { results := [.lit (.bool false)], args := [d1, d2, d3] }
  | _ => none }
def ModeUpWrongFalsely : Prop := modeUpRow.holds Try.pinned (OpenSpec.ofChange modeUpWrong)

/-- 'carillonlaw28.ModeActive': WHATEVER THE INPUT: true; the input reads as it did. -/
def modeActiveSpec : ChangeSpec := { name := "modeActive", fn := fun _ => fun
  | [d1, d2, d3, d4, d5] => { results := [.lit (.bool true)], args := [d1, d2, d3, d4, d5] }
  | _ => none }
def modeActiveRow : OpenClaim := { program := "ytiiaooaigeenoaa", sum := "38adcc263a8bcd55d953122f92b93be17391517d041ff364ad16fd52f6a0ea30", func := "carillon/carillonlaw28.ModeActive", spec := "modeActive", unfollowed := true, recurses := true, apart := false }
def ModeActiveSaid : Prop := modeActiveRow.holds Try.pinned (OpenSpec.ofChange modeActiveSpec)

/-- ITS FALSE NEIGHBOUR: 'it returns false'. Refute it at one input. -/
def modeActiveWrong : ChangeSpec := { name := "modeActive", fn := fun _ => fun
  | [d1, d2, d3, d4, d5] => { results := [.lit (.bool false)], args := [d1, d2, d3, d4, d5] }
  | _ => none }
def ModeActiveWrongFalsely : Prop := modeActiveRow.holds Try.pinned (OpenSpec.ofChange modeActiveWrong)

/-- 'carillonlaw28.ModeZero': WHATEVER THE INPUT: true; the input reads as it did. -/
def modeZeroSpec : ChangeSpec := { name := "modeZero", fn := fun _ => fun
  | [d] => { results := [.lit (.bool true)], args := [d] }
  | _ => none }
def modeZeroRow : OpenClaim := { program := "ytiiaooaigeenoaa", sum := "38adcc263a8bcd55d953122f92b93be17391517d041ff364ad16fd52f6a0ea30", func := "carillon/carillonlaw28.ModeZero", spec := "modeZero", unfollowed := true, recurses := true, apart := false }
def ModeZeroSaid : Prop := modeZeroRow.holds Try.pinned (OpenSpec.ofChange modeZeroSpec)

/-- ITS FALSE NEIGHBOUR: 'it returns false'. Refute it at one input. -/
def modeZeroWrong : ChangeSpec := { name := "modeZero", fn := fun _ => fun
  | [d] => { results := [.lit (.bool false)], args := [d] }
  | _ => none }
def ModeZeroWrongFalsely : Prop := modeZeroRow.holds Try.pinned (OpenSpec.ofChange modeZeroWrong)

/-- 'carillonlaw28.ModePlays': WHATEVER THE INPUT: true; the input reads as it did. -/
def modePlaysSpec : ChangeSpec := { name := "modePlays", fn := fun _ => fun
  | [d1, d2, d3, d4, d5, d6] => { results := [.lit (.bool true)], args := [d1, d2, d3, d4, d5, d6] }
  | _ => none }
def modePlaysRow : OpenClaim := { program := "ytiiaooaigeenoaa", sum := "38adcc263a8bcd55d953122f92b93be17391517d041ff364ad16fd52f6a0ea30", func := "carillon/carillonlaw28.ModePlays", spec := "modePlays", unfollowed := true, recurses := true, apart := false }
def ModePlaysSaid : Prop := modePlaysRow.holds Try.pinned (OpenSpec.ofChange modePlaysSpec)

/-- ITS FALSE NEIGHBOUR: 'it returns false'. Refute it at one input. -/
def modePlaysWrong : ChangeSpec := { name := "modePlays", fn := fun _ => fun
  | [d1, d2, d3, d4, d5, d6] => { results := [.lit (.bool false)], args := [d1, d2, d3, d4, d5, d6] }
  | _ => none }
def ModePlaysWrongFalsely : Prop := modePlaysRow.holds Try.pinned (OpenSpec.ofChange modePlaysWrong)

/- THE SECOND FORM. 'bulk': how many values and letters a reading holds, each counted each time it is reached (what is shared counts as often as it is met; a slice's spare places count too). A statement '..UptoSaid' is the law's where the arguments, and the package variables that the reading takes, are together of bulk at most 1048576: NARROWER than '..Said'. Prove '..Said' where nothing that the law and all that it calls make is longer than what came in: it says more and counts as full. Else prove '..UptoSaid'. A law counts once. -/
mutual
def uptoBulk {H : Type} : DataW H → Nat
  | .lit (.string bytes) => bytes.length + 1
  | .lit _ => 1
  | .nil => 1
  | .ptr d => uptoBulk d + 1
  | .slice elems spare => uptoBulkAll elems + uptoBulkAll spare + 1
  | .agg parts => uptoBulkAll parts + 1
  | .iface _ d => uptoBulk d + 1
  | .map entries => uptoBulkEntries entries + 1
  | .held _ => 1
def uptoBulkAll {H : Type} : List (DataW H) → Nat
  | [] => 0
  | d :: r => uptoBulk d + uptoBulkAll r
def uptoBulkEntries {H : Type} : List (Lit × DataW H) → Nat
  | [] => 0
  | x :: r => uptoBulkEntry x + uptoBulkEntries r
def uptoBulkEntry {H : Type} : Lit × DataW H → Nat
  | (.string bytes, d) => bytes.length + uptoBulk d + 1
  | (_, d) => uptoBulk d + 1
 end
def uptoSmall : (H : Type) → List (DataW H) → Bool := fun _ ds => decide (uptoBulkAll ds ≤ 1048576)
def OpenSpec.upto (s : _root_.Go.ChangeSpec) : _root_.Go.OpenSpec := { _root_.Go.OpenSpec.ofChange s with cond := some uptoSmall }

/-- 'carillonlaw28.ModePatience', WHERE WHAT IT READS IS OF BULK AT MOST 1048576: true; the input reads as it did. -/
def modePatienceUptoRow : OpenClaim := { program := "ytiiaooaigeenoaa", sum := "38adcc263a8bcd55d953122f92b93be17391517d041ff364ad16fd52f6a0ea30", func := "carillon/carillonlaw28.ModePatience", spec := "modePatience", unfollowed := true, recurses := true, apart := false, narrowed := true }
def ModePatienceUptoSaid : Prop := modePatienceUptoRow.holds Try.pinned (OpenSpec.upto modePatienceSpec)

/-- 'carillonlaw28.ModeUp', WHERE WHAT IT READS IS OF BULK AT MOST 1048576: true; the input reads as it did. -/
def modeUpUptoRow : OpenClaim := { program := "ytiiaooaigeenoaa", sum := "38adcc263a8bcd55d953122f92b93be17391517d041ff364ad16fd52f6a0ea30", func := "carillon/carillonlaw28.ModeUp", spec := "modeUp", unfollowed := true, recurses := true, apart := false, narrowed := true }
def ModeUpUptoSaid : Prop := modeUpUptoRow.holds Try.pinned (OpenSpec.upto modeUpSpec)

/-- 'carillonlaw28.ModeActive', WHERE WHAT IT READS IS OF BULK AT MOST 1048576: true; the input reads as it did. -/
def modeActiveUptoRow : OpenClaim := { program := "ytiiaooaigeenoaa", sum := "38adcc263a8bcd55d953122f92b93be17391517d041ff364ad16fd52f6a0ea30", func := "carillon/carillonlaw28.ModeActive", spec := "modeActive", unfollowed := true, recurses := true, apart := false, narrowed := true }
def ModeActiveUptoSaid : Prop := modeActiveUptoRow.holds Try.pinned (OpenSpec.upto modeActiveSpec)

/-- 'carillonlaw28.ModeZero', WHERE WHAT IT READS IS OF BULK AT MOST 1048576: true; the input reads as it did. -/
def modeZeroUptoRow : OpenClaim := { program := "ytiiaooaigeenoaa", sum := "38adcc263a8bcd55d953122f92b93be17391517d041ff364ad16fd52f6a0ea30", func := "carillon/carillonlaw28.ModeZero", spec := "modeZero", unfollowed := true, recurses := true, apart := false, narrowed := true }
def ModeZeroUptoSaid : Prop := modeZeroUptoRow.holds Try.pinned (OpenSpec.upto modeZeroSpec)

/-- 'carillonlaw28.ModePlays', WHERE WHAT IT READS IS OF BULK AT MOST 1048576: true; the input reads as it did. -/
def modePlaysUptoRow : OpenClaim := { program := "ytiiaooaigeenoaa", sum := "38adcc263a8bcd55d953122f92b93be17391517d041ff364ad16fd52f6a0ea30", func := "carillon/carillonlaw28.ModePlays", spec := "modePlays", unfollowed := true, recurses := true, apart := false, narrowed := true }
def ModePlaysUptoSaid : Prop := modePlaysUptoRow.holds Try.pinned (OpenSpec.upto modePlaysSpec)

end Rows
end Go.Proofs.Ytiiaooaigeenoaa
