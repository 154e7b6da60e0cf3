/-
  No cell of these rows narrows 'for every input' (looked for: loops, veiled, ifaces, maps, wideKeys, modest, calm, conditions, laid).
  DERIVED. THE GIVEN ROWS OF THIS SEAT. 6 by the template 'for every input the law returns true; each argument reads behind the call as it read before'; 0 by the template 'total and deterministic' (their statements: YtcffphhncpdjfaaTotals.lean).
  GIVEN WITH THE SEED: the statements are not yours to turn. If you find one false, say at which input.
  Laid BY PROGRAM, IN A SANDBOX (cutbox-rows.mjs): the forced cells as the released guide's own fill.sh prints them over the translation 491e735b1cca4912… (all of the seat's roots in one cut). By AI agents, Wed Nov 11 2026. No macro, syntax, notation, axiom, sorry.
-/
import Derived.Test.YtcffphhncpdjfaaChecked
import GoSem.Claim
import GoSem.ClaimJoined
import GoSem.ClaimMapViews
import Derived.JoinedTies
import Derived.KernelRfl
namespace Go.Proofs.Ytcffphhncpdjfaa
/- THE CELL 'sum', in the pinned program and in every row, IS THE sha256 OF THE DUMP (.gsa) THAT YtcffphhncpdjfaaProg.lean LOADS. Nothing in Lean hashes anything: it is a label: what it is worth is what the hold of that sum in a sandbox is worth. -/
noncomputable def Try.pinned : Pinned := { name := "ytcffphhncpdjfaa", sum := "491e735b1cca4912384c12046c06142ca149db582909bf531eed80a970936690", checked := Try.checked }
namespace Rows
def none {H : Type} : Left H := { results := [], args := [] }

/-- 'carillonlaw35.TasksZero': WHATEVER THE INPUT: true; the input reads as it did. -/
def tasksZeroSpec : ChangeSpec := { name := "tasksZero", fn := fun _ => fun
  | [d1, d2] => { results := [.lit (.bool true)], args := [d1, d2] }
  | _ => none }
def tasksZeroRow : OpenClaim := { program := "ytcffphhncpdjfaa", sum := "491e735b1cca4912384c12046c06142ca149db582909bf531eed80a970936690", func := "carillon/carillonlaw35.TasksZero", spec := "tasksZero", unfollowed := true, recurses := true, apart := false }
def TasksZeroSaid : Prop := tasksZeroRow.holds Try.pinned (OpenSpec.ofChange tasksZeroSpec)

/-- ITS FALSE NEIGHBOUR: 'it returns false'. Refute it at one input. -/
def tasksZeroWrong : ChangeSpec := { name := "tasksZero", fn := fun _ => fun
  | [d1, d2] => { results := [.lit (.bool false)], args := [d1, d2] }
  | _ => none }
def TasksZeroWrongFalsely : Prop := tasksZeroRow.holds Try.pinned (OpenSpec.ofChange tasksZeroWrong)

/-- 'carillonlaw35.TasksCycle': WHATEVER THE INPUT: true; the input reads as it did. -/
def tasksCycleSpec : ChangeSpec := { name := "tasksCycle", fn := fun _ => fun
  | [d1, d2, d3] => { results := [.lit (.bool true)], args := [d1, d2, d3] }
  | _ => none }
def tasksCycleRow : OpenClaim := { program := "ytcffphhncpdjfaa", sum := "491e735b1cca4912384c12046c06142ca149db582909bf531eed80a970936690", func := "carillon/carillonlaw35.TasksCycle", spec := "tasksCycle", unfollowed := true, recurses := true, apart := false }
def TasksCycleSaid : Prop := tasksCycleRow.holds Try.pinned (OpenSpec.ofChange tasksCycleSpec)

/-- ITS FALSE NEIGHBOUR: 'it returns false'. Refute it at one input. -/
def tasksCycleWrong : ChangeSpec := { name := "tasksCycle", fn := fun _ => fun
  | [d1, d2, d3] => { results := [.lit (.bool false)], args := [d1, d2, d3] }
  | _ => none }
def TasksCycleWrongFalsely : Prop := tasksCycleRow.holds Try.pinned (OpenSpec.ofChange tasksCycleWrong)

/-- 'carillonlaw35.TasksNext': WHATEVER THE INPUT: true; the input reads as it did. -/
def tasksNextSpec : ChangeSpec := { name := "tasksNext", fn := fun _ => fun
  | [d1, d2, d3] => { results := [.lit (.bool true)], args := [d1, d2, d3] }
  | _ => none }
def tasksNextRow : OpenClaim := { program := "ytcffphhncpdjfaa", sum := "491e735b1cca4912384c12046c06142ca149db582909bf531eed80a970936690", func := "carillon/carillonlaw35.TasksNext", spec := "tasksNext", unfollowed := true, recurses := true, apart := false }
def TasksNextSaid : Prop := tasksNextRow.holds Try.pinned (OpenSpec.ofChange tasksNextSpec)

/-- ITS FALSE NEIGHBOUR: 'it returns false'. Refute it at one input. -/
def tasksNextWrong : ChangeSpec := { name := "tasksNext", fn := fun _ => fun
  | [d1, d2, d3] => { results := [.lit (.bool false)], args := [d1, d2, d3] }
  | _ => none }
def TasksNextWrongFalsely : Prop := tasksNextRow.holds Try.pinned (OpenSpec.ofChange tasksNextWrong)

/-- 'carillonlaw35.TasksOne': WHATEVER THE INPUT: true; the input reads as it did. -/
def tasksOneSpec : ChangeSpec := { name := "tasksOne", fn := fun _ => fun
  | [d1, d2, d3, d4] => { results := [.lit (.bool true)], args := [d1, d2, d3, d4] }
  | _ => none }
def tasksOneRow : OpenClaim := { program := "ytcffphhncpdjfaa", sum := "491e735b1cca4912384c12046c06142ca149db582909bf531eed80a970936690", func := "carillon/carillonlaw35.TasksOne", spec := "tasksOne", unfollowed := true, recurses := true, apart := false }
def TasksOneSaid : Prop := tasksOneRow.holds Try.pinned (OpenSpec.ofChange tasksOneSpec)

/-- ITS FALSE NEIGHBOUR: 'it returns false'. Refute it at one input. -/
def tasksOneWrong : ChangeSpec := { name := "tasksOne", fn := fun _ => fun
  | [d1, d2, d3, d4] => { results := [.lit (.bool false)], args := [d1, d2, d3, d4] }
  | _ => none }
def TasksOneWrongFalsely : Prop := tasksOneRow.holds Try.pinned (OpenSpec.ofChange tasksOneWrong)

/-- 'carillonlaw35.TasksMakes': WHATEVER THE INPUT: true; the input reads as it did. -/
def tasksMakesSpec : ChangeSpec := { name := "tasksMakes", fn := fun _ => fun
  | [d1, d2, d3, d4] => { results := [.lit (.bool true)], args := [d1, d2, d3, d4] }
  | _ => none }
def tasksMakesRow : OpenClaim := { program := "ytcffphhncpdjfaa", sum := "491e735b1cca4912384c12046c06142ca149db582909bf531eed80a970936690", func := "carillon/carillonlaw35.TasksMakes", spec := "tasksMakes", unfollowed := true, recurses := true, apart := false }
def TasksMakesSaid : Prop := tasksMakesRow.holds Try.pinned (OpenSpec.ofChange tasksMakesSpec)

/-- ITS FALSE NEIGHBOUR: 'it returns false'. Refute it at one input. -/
def tasksMakesWrong : ChangeSpec := { name := "tasksMakes", fn := fun _ => fun
  | [d1, d2, d3, d4] => { results := [.lit (.bool false)], args := [d1, d2, d3, d4] }
  | _ => none }
def TasksMakesWrongFalsely : Prop := tasksMakesRow.holds Try.pinned (OpenSpec.ofChange tasksMakesWrong)

/-- 'carillonlaw35.TasksPlaces': WHATEVER THE INPUT: true; the input reads as it did. -/
def tasksPlacesSpec : ChangeSpec := { name := "tasksPlaces", fn := fun _ => fun
  | [d1, d2, d3] => { results := [.lit (.bool true)], args := [d1, d2, d3] }
  | _ => none }
def tasksPlacesRow : OpenClaim := { program := "ytcffphhncpdjfaa", sum := "491e735b1cca4912384c12046c06142ca149db582909bf531eed80a970936690", func := "carillon/carillonlaw35.TasksPlaces", spec := "tasksPlaces", unfollowed := true, recurses := true, apart := false }
def TasksPlacesSaid : Prop := tasksPlacesRow.holds Try.pinned (OpenSpec.ofChange tasksPlacesSpec)

/-- ITS FALSE NEIGHBOUR: 'it returns false'. Refute it at one input. -/
def tasksPlacesWrong : ChangeSpec := { name := "tasksPlaces", fn := fun _ => fun
  | [d1, d2, d3] => { results := [.lit (.bool false)], args := [d1, d2, d3] }
  | _ => none }
def TasksPlacesWrongFalsely : Prop := tasksPlacesRow.holds Try.pinned (OpenSpec.ofChange tasksPlacesWrong)

/- THE SECOND FORM. 'bulk': how many values and letters a reading holds, each counted each time it is reached (what is shared counts as often as it is met; a slice's spare places count too). A statement '..UptoSaid' is the law's where the arguments, and the package variables that the reading takes, are together of bulk at most 1048576: NARROWER than '..Said'. Prove '..Said' where nothing that the law and all that it calls make is longer than what came in: it says more and counts as full. Else prove '..UptoSaid'. A law counts once. -/
mutual
def uptoBulk {H : Type} : DataW H → Nat
  | .lit (.string bytes) => bytes.length + 1
  | .lit _ => 1
  | .nil => 1
  | .ptr d => uptoBulk d + 1
  | .slice elems spare => uptoBulkAll elems + uptoBulkAll spare + 1
  | .agg parts => uptoBulkAll parts + 1
  | .iface _ d => uptoBulk d + 1
  | .map entries => uptoBulkEntries entries + 1
  | .held _ => 1
def uptoBulkAll {H : Type} : List (DataW H) → Nat
  | [] => 0
  | d :: r => uptoBulk d + uptoBulkAll r
def uptoBulkEntries {H : Type} : List (Lit × DataW H) → Nat
  | [] => 0
  | x :: r => uptoBulkEntry x + uptoBulkEntries r
def uptoBulkEntry {H : Type} : Lit × DataW H → Nat
  | (.string bytes, d) => bytes.length + uptoBulk d + 1
  | (_, d) => uptoBulk d + 1
 end
def uptoSmall : (H : Type) → List (DataW H) → Bool := fun _ ds => decide (uptoBulkAll ds ≤ 1048576)
def OpenSpec.upto (s : _root_.Go.ChangeSpec) : _root_.Go.OpenSpec := { _root_.Go.OpenSpec.ofChange s with cond := some uptoSmall }

/-- 'carillonlaw35.TasksZero', WHERE WHAT IT READS IS OF BULK AT MOST 1048576: true; the input reads as it did. -/
def tasksZeroUptoRow : OpenClaim := { program := "ytcffphhncpdjfaa", sum := "491e735b1cca4912384c12046c06142ca149db582909bf531eed80a970936690", func := "carillon/carillonlaw35.TasksZero", spec := "tasksZero", unfollowed := true, recurses := true, apart := false, narrowed := true }
def TasksZeroUptoSaid : Prop := tasksZeroUptoRow.holds Try.pinned (OpenSpec.upto tasksZeroSpec)

/-- 'carillonlaw35.TasksCycle', WHERE WHAT IT READS IS OF BULK AT MOST 1048576: true; the input reads as it did. -/
def tasksCycleUptoRow : OpenClaim := { program := "ytcffphhncpdjfaa", sum := "491e735b1cca4912384c12046c06142ca149db582909bf531eed80a970936690", func := "carillon/carillonlaw35.TasksCycle", spec := "tasksCycle", unfollowed := true, recurses := true, apart := false, narrowed := true }
def TasksCycleUptoSaid : Prop := tasksCycleUptoRow.holds Try.pinned (OpenSpec.upto tasksCycleSpec)

/-- 'carillonlaw35.TasksNext', WHERE WHAT IT READS IS OF BULK AT MOST 1048576: true; the input reads as it did. -/
def tasksNextUptoRow : OpenClaim := { program := "ytcffphhncpdjfaa", sum := "491e735b1cca4912384c12046c06142ca149db582909bf531eed80a970936690", func := "carillon/carillonlaw35.TasksNext", spec := "tasksNext", unfollowed := true, recurses := true, apart := false, narrowed := true }
def TasksNextUptoSaid : Prop := tasksNextUptoRow.holds Try.pinned (OpenSpec.upto tasksNextSpec)

/-- 'carillonlaw35.TasksOne', WHERE WHAT IT READS IS OF BULK AT MOST 1048576: true; the input reads as it did. -/
def tasksOneUptoRow : OpenClaim := { program := "ytcffphhncpdjfaa", sum := "491e735b1cca4912384c12046c06142ca149db582909bf531eed80a970936690", func := "carillon/carillonlaw35.TasksOne", spec := "tasksOne", unfollowed := true, recurses := true, apart := false, narrowed := true }
def TasksOneUptoSaid : Prop := tasksOneUptoRow.holds Try.pinned (OpenSpec.upto tasksOneSpec)

/-- 'carillonlaw35.TasksMakes', WHERE WHAT IT READS IS OF BULK AT MOST 1048576: true; the input reads as it did. -/
def tasksMakesUptoRow : OpenClaim := { program := "ytcffphhncpdjfaa", sum := "491e735b1cca4912384c12046c06142ca149db582909bf531eed80a970936690", func := "carillon/carillonlaw35.TasksMakes", spec := "tasksMakes", unfollowed := true, recurses := true, apart := false, narrowed := true }
def TasksMakesUptoSaid : Prop := tasksMakesUptoRow.holds Try.pinned (OpenSpec.upto tasksMakesSpec)

/-- 'carillonlaw35.TasksPlaces', WHERE WHAT IT READS IS OF BULK AT MOST 1048576: true; the input reads as it did. -/
def tasksPlacesUptoRow : OpenClaim := { program := "ytcffphhncpdjfaa", sum := "491e735b1cca4912384c12046c06142ca149db582909bf531eed80a970936690", func := "carillon/carillonlaw35.TasksPlaces", spec := "tasksPlaces", unfollowed := true, recurses := true, apart := false, narrowed := true }
def TasksPlacesUptoSaid : Prop := tasksPlacesUptoRow.holds Try.pinned (OpenSpec.upto tasksPlacesSpec)

end Rows
end Go.Proofs.Ytcffphhncpdjfaa
