/-
  No cell of these rows narrows 'for every input' (looked for: loops, veiled, ifaces, maps, wideKeys, modest, calm, conditions, laid).
  DERIVED. THE GIVEN ROWS OF THIS SEAT. 3 by the template 'for every input the law returns true; each argument reads behind the call as it read before'; 0 by the template 'total and deterministic' (their statements: YtcmeffioajhkbaaTotals.lean).
  GIVEN WITH THE SEED: the statements are not yours to turn. If you find one false, say at which input.
  Laid BY PROGRAM, IN A SANDBOX (cutbox-rows.mjs): the forced cells as the released guide's own fill.sh prints them over the translation a5e1c7abbd4f05bf… (all of the seat's roots in one cut). By AI agents, Wed Nov 11 2026. No macro, syntax, notation, axiom, sorry.
-/
import Derived.Test.YtcmeffioajhkbaaChecked
import GoSem.Claim
import GoSem.ClaimJoined
import GoSem.ClaimMapViews
import Derived.JoinedTies
import Derived.KernelRfl
namespace Go.Proofs.Ytcmeffioajhkbaa
/- THE CELL 'sum', in the pinned program and in every row, IS THE sha256 OF THE DUMP (.gsa) THAT YtcmeffioajhkbaaProg.lean LOADS. Nothing in Lean hashes anything: it is a label: what it is worth is what the hold of that sum in a sandbox is worth. -/
noncomputable def Try.pinned : Pinned := { name := "ytcmeffioajhkbaa", sum := "a5e1c7abbd4f05bf8b615295036e8ed143e610c1bde003268666fc66ca050950", checked := Try.checked }
namespace Rows
def none {H : Type} : Left H := { results := [], args := [] }

/-- 'carillonlaw36.DispatchZero': WHATEVER THE INPUT: true; the input reads as it did. -/
def dispatchZeroSpec : ChangeSpec := { name := "dispatchZero", fn := fun _ => fun
  | [d] => { results := [.lit (.bool true)], args := [d] }
  | _ => none }
def dispatchZeroRow : OpenClaim := { program := "ytcmeffioajhkbaa", sum := "a5e1c7abbd4f05bf8b615295036e8ed143e610c1bde003268666fc66ca050950", func := "carillon/carillonlaw36.DispatchZero", spec := "dispatchZero", unfollowed := true, recurses := true, apart := false }
def DispatchZeroSaid : Prop := dispatchZeroRow.holds Try.pinned (OpenSpec.ofChange dispatchZeroSpec)

/-- ITS FALSE NEIGHBOUR: 'it returns false'. Refute it at one input. -/
def dispatchZeroWrong : ChangeSpec := { name := "dispatchZero", fn := fun _ => fun
  | [d] => { results := [.lit (.bool false)], args := [d] }
  | _ => none }
def DispatchZeroWrongFalsely : Prop := dispatchZeroRow.holds Try.pinned (OpenSpec.ofChange dispatchZeroWrong)

/-- 'carillonlaw36.DispatchAll': WHATEVER THE INPUT: true; the input reads as it did. -/
def dispatchAllSpec : ChangeSpec := { name := "dispatchAll", fn := fun _ => fun
  | [d1, d2] => { results := [.lit (.bool true)], args := [d1, d2] }
  | _ => none }
def dispatchAllRow : OpenClaim := { program := "ytcmeffioajhkbaa", sum := "a5e1c7abbd4f05bf8b615295036e8ed143e610c1bde003268666fc66ca050950", func := "carillon/carillonlaw36.DispatchAll", spec := "dispatchAll", unfollowed := true, recurses := true, apart := false }
def DispatchAllSaid : Prop := dispatchAllRow.holds Try.pinned (OpenSpec.ofChange dispatchAllSpec)

/-- ITS FALSE NEIGHBOUR: 'it returns false'. Refute it at one input. -/
def dispatchAllWrong : ChangeSpec := { name := "dispatchAll", fn := fun _ => fun
  | [d1, d2] => { results := [.lit (.bool false)], args := [d1, d2] }
  | _ => none }
def DispatchAllWrongFalsely : Prop := dispatchAllRow.holds Try.pinned (OpenSpec.ofChange dispatchAllWrong)

/-- 'carillonlaw36.DispatchTimely': WHATEVER THE INPUT: true; the input reads as it did. -/
def dispatchTimelySpec : ChangeSpec := { name := "dispatchTimely", fn := fun _ => fun
  | [d] => { results := [.lit (.bool true)], args := [d] }
  | _ => none }
def dispatchTimelyRow : OpenClaim := { program := "ytcmeffioajhkbaa", sum := "a5e1c7abbd4f05bf8b615295036e8ed143e610c1bde003268666fc66ca050950", func := "carillon/carillonlaw36.DispatchTimely", spec := "dispatchTimely", unfollowed := true, recurses := true, apart := false }
def DispatchTimelySaid : Prop := dispatchTimelyRow.holds Try.pinned (OpenSpec.ofChange dispatchTimelySpec)

/-- ITS FALSE NEIGHBOUR: 'it returns false'. Refute it at one input. -/
def dispatchTimelyWrong : ChangeSpec := { name := "dispatchTimely", fn := fun _ => fun
  | [d] => { results := [.lit (.bool false)], args := [d] }
  | _ => none }
def DispatchTimelyWrongFalsely : Prop := dispatchTimelyRow.holds Try.pinned (OpenSpec.ofChange dispatchTimelyWrong)

/- THE SECOND FORM. 'bulk': how many values and letters a reading holds, each counted each time it is reached (what is shared counts as often as it is met; a slice's spare places count too). A statement '..UptoSaid' is the law's where the arguments, and the package variables that the reading takes, are together of bulk at most 1048576: NARROWER than '..Said'. Prove '..Said' where nothing that the law and all that it calls make is longer than what came in: it says more and counts as full. Else prove '..UptoSaid'. A law counts once. -/
mutual
def uptoBulk {H : Type} : DataW H → Nat
  | .lit (.string bytes) => bytes.length + 1
  | .lit _ => 1
  | .nil => 1
  | .ptr d => uptoBulk d + 1
  | .slice elems spare => uptoBulkAll elems + uptoBulkAll spare + 1
  | .agg parts => uptoBulkAll parts + 1
  | .iface _ d => uptoBulk d + 1
  | .map entries => uptoBulkEntries entries + 1
  | .held _ => 1
def uptoBulkAll {H : Type} : List (DataW H) → Nat
  | [] => 0
  | d :: r => uptoBulk d + uptoBulkAll r
def uptoBulkEntries {H : Type} : List (Lit × DataW H) → Nat
  | [] => 0
  | x :: r => uptoBulkEntry x + uptoBulkEntries r
def uptoBulkEntry {H : Type} : Lit × DataW H → Nat
  | (.string bytes, d) => bytes.length + uptoBulk d + 1
  | (_, d) => uptoBulk d + 1
 end
def uptoSmall : (H : Type) → List (DataW H) → Bool := fun _ ds => decide (uptoBulkAll ds ≤ 1048576)
def OpenSpec.upto (s : _root_.Go.ChangeSpec) : _root_.Go.OpenSpec := { _root_.Go.OpenSpec.ofChange s with cond := some uptoSmall }

/-- 'carillonlaw36.DispatchZero', WHERE WHAT IT READS IS OF BULK AT MOST 1048576: true; the input reads as it did. -/
def dispatchZeroUptoRow : OpenClaim := { program := "ytcmeffioajhkbaa", sum := "a5e1c7abbd4f05bf8b615295036e8ed143e610c1bde003268666fc66ca050950", func := "carillon/carillonlaw36.DispatchZero", spec := "dispatchZero", unfollowed := true, recurses := true, apart := false, narrowed := true }
def DispatchZeroUptoSaid : Prop := dispatchZeroUptoRow.holds Try.pinned (OpenSpec.upto dispatchZeroSpec)

/-- 'carillonlaw36.DispatchAll', WHERE WHAT IT READS IS OF BULK AT MOST 1048576: true; the input reads as it did. -/
def dispatchAllUptoRow : OpenClaim := { program := "ytcmeffioajhkbaa", sum := "a5e1c7abbd4f05bf8b615295036e8ed143e610c1bde003268666fc66ca050950", func := "carillon/carillonlaw36.DispatchAll", spec := "dispatchAll", unfollowed := true, recurses := true, apart := false, narrowed := true }
def DispatchAllUptoSaid : Prop := dispatchAllUptoRow.holds Try.pinned (OpenSpec.upto dispatchAllSpec)

/-- 'carillonlaw36.DispatchTimely', WHERE WHAT IT READS IS OF BULK AT MOST 1048576: true; the input reads as it did. -/
def dispatchTimelyUptoRow : OpenClaim := { program := "ytcmeffioajhkbaa", sum := "a5e1c7abbd4f05bf8b615295036e8ed143e610c1bde003268666fc66ca050950", func := "carillon/carillonlaw36.DispatchTimely", spec := "dispatchTimely", unfollowed := true, recurses := true, apart := false, narrowed := true }
def DispatchTimelyUptoSaid : Prop := dispatchTimelyUptoRow.holds Try.pinned (OpenSpec.upto dispatchTimelySpec)

end Rows
end Go.Proofs.Ytcmeffioajhkbaa
