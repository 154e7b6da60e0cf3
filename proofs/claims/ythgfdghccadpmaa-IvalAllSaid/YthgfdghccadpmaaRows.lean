/-
  No cell of these rows narrows 'for every input' (looked for: loops, veiled, ifaces, maps, wideKeys, modest, calm, conditions, laid).
  DERIVED. THE GIVEN ROWS OF THIS SEAT. 6 by the template 'for every input the law returns true; each argument reads behind the call as it read before'; 0 by the template 'total and deterministic' (their statements: YthgfdghccadpmaaTotals.lean).
  GIVEN WITH THE SEED: the statements are not yours to turn. If you find one false, say at which input.
  Laid BY PROGRAM, IN A SANDBOX (cutbox-rows.mjs): the forced cells as the released guide's own fill.sh prints them over the translation 1054d240b9ee81ba… (all of the seat's roots in one cut). By AI agents, Wed Nov 11 2026. No macro, syntax, notation, axiom, sorry.
-/
import Derived.Test.YthgfdghccadpmaaChecked
import GoSem.Claim
import GoSem.ClaimJoined
import GoSem.ClaimMapViews
import Derived.JoinedTies
import Derived.KernelRfl
namespace Go.Proofs.Ythgfdghccadpmaa
/- THE CELL 'sum', in the pinned program and in every row, IS THE sha256 OF THE DUMP (.gsa) THAT YthgfdghccadpmaaProg.lean LOADS. Nothing in Lean hashes anything: it is a label: what it is worth is what the hold of that sum in a sandbox is worth. -/
noncomputable def Try.pinned : Pinned := { name := "ythgfdghccadpmaa", sum := "1054d240b9ee81bab7f2881716ebb68719a5414a148d88ae33f13a848bf48a3d", checked := Try.checked }
namespace Rows
def none {H : Type} : Left H := { results := [], args := [] }

/-- 'carillonlaw08.IvalMakes': WHATEVER THE INPUT: true; the input reads as it did. -/
def ivalMakesSpec : ChangeSpec := { name := "ivalMakes", fn := fun _ => fun
  | [d1, d2] => { results := [.lit (.bool true)], args := [d1, d2] }
  | _ => none }
def ivalMakesRow : OpenClaim := { program := "ythgfdghccadpmaa", sum := "1054d240b9ee81bab7f2881716ebb68719a5414a148d88ae33f13a848bf48a3d", func := "carillon/carillonlaw08.IvalMakes", spec := "ivalMakes", apart := false }
def IvalMakesSaid : Prop := ivalMakesRow.holds Try.pinned (OpenSpec.ofChange ivalMakesSpec)

/-- ITS FALSE NEIGHBOUR: 'it returns false'. Refute it at one input. -/
def ivalMakesWrong : ChangeSpec := { name := "ivalMakes", fn := fun _ => fun
  | [d1, d2] => { results := [.lit (.bool false)], args := [d1, d2] }
  | _ => none }
def IvalMakesWrongFalsely : Prop := ivalMakesRow.holds Try.pinned (OpenSpec.ofChange ivalMakesWrong)

/-- 'carillonlaw08.IvalMeets': WHATEVER THE INPUT: true; the input reads as it did. -/
def ivalMeetsSpec : ChangeSpec := { name := "ivalMeets", fn := fun _ => fun
  | [d1, d2, d3] => { results := [.lit (.bool true)], args := [d1, d2, d3] }
  | _ => none }
def ivalMeetsRow : OpenClaim := { program := "ythgfdghccadpmaa", sum := "1054d240b9ee81bab7f2881716ebb68719a5414a148d88ae33f13a848bf48a3d", func := "carillon/carillonlaw08.IvalMeets", spec := "ivalMeets", apart := false }
def IvalMeetsSaid : Prop := ivalMeetsRow.holds Try.pinned (OpenSpec.ofChange ivalMeetsSpec)

/-- ITS FALSE NEIGHBOUR: 'it returns false'. Refute it at one input. -/
def ivalMeetsWrong : ChangeSpec := { name := "ivalMeets", fn := fun _ => fun
  | [d1, d2, d3] => { results := [.lit (.bool false)], args := [d1, d2, d3] }
  | _ => none }
def IvalMeetsWrongFalsely : Prop := ivalMeetsRow.holds Try.pinned (OpenSpec.ofChange ivalMeetsWrong)

/-- 'carillonlaw08.IvalGrows': WHATEVER THE INPUT: true; the input reads as it did. -/
def ivalGrowsSpec : ChangeSpec := { name := "ivalGrows", fn := fun _ => fun
  | [d1, d2, d3, d4, d5] => { results := [.lit (.bool true)], args := [d1, d2, d3, d4, d5] }
  | _ => none }
def ivalGrowsRow : OpenClaim := { program := "ythgfdghccadpmaa", sum := "1054d240b9ee81bab7f2881716ebb68719a5414a148d88ae33f13a848bf48a3d", func := "carillon/carillonlaw08.IvalGrows", spec := "ivalGrows", apart := false }
def IvalGrowsSaid : Prop := ivalGrowsRow.holds Try.pinned (OpenSpec.ofChange ivalGrowsSpec)

/-- ITS FALSE NEIGHBOUR: 'it returns false'. Refute it at one input. -/
def ivalGrowsWrong : ChangeSpec := { name := "ivalGrows", fn := fun _ => fun
  | [d1, d2, d3, d4, d5] => { results := [.lit (.bool false)], args := [d1, d2, d3, d4, d5] }
  | _ => none }
def IvalGrowsWrongFalsely : Prop := ivalGrowsRow.holds Try.pinned (OpenSpec.ofChange ivalGrowsWrong)

/-- 'carillonlaw08.IvalAll': WHATEVER THE INPUT: true; the input reads as it did. -/
def ivalAllSpec : ChangeSpec := { name := "ivalAll", fn := fun _ => fun
  | [d1, d2, d3, d4, d5] => { results := [.lit (.bool true)], args := [d1, d2, d3, d4, d5] }
  | _ => none }
def ivalAllRow : OpenClaim := { program := "ythgfdghccadpmaa", sum := "1054d240b9ee81bab7f2881716ebb68719a5414a148d88ae33f13a848bf48a3d", func := "carillon/carillonlaw08.IvalAll", spec := "ivalAll", apart := false }
def IvalAllSaid : Prop := ivalAllRow.holds Try.pinned (OpenSpec.ofChange ivalAllSpec)

/-- ITS FALSE NEIGHBOUR: 'it returns false'. Refute it at one input. -/
def ivalAllWrong : ChangeSpec := { name := "ivalAll", fn := fun _ => fun
  | [d1, d2, d3, d4, d5] => { results := [.lit (.bool false)], args := [d1, d2, d3, d4, d5] }
  | _ => none }
def IvalAllWrongFalsely : Prop := ivalAllRow.holds Try.pinned (OpenSpec.ofChange ivalAllWrong)

/-- 'carillonlaw08.IvalMost': WHATEVER THE INPUT: true; the input reads as it did. -/
def ivalMostSpec : ChangeSpec := { name := "ivalMost", fn := fun _ => fun
  | [d] => { results := [.lit (.bool true)], args := [d] }
  | _ => none }
def ivalMostRow : OpenClaim := { program := "ythgfdghccadpmaa", sum := "1054d240b9ee81bab7f2881716ebb68719a5414a148d88ae33f13a848bf48a3d", func := "carillon/carillonlaw08.IvalMost", spec := "ivalMost", unfollowed := true, recurses := true, apart := false }
def IvalMostSaid : Prop := ivalMostRow.holds Try.pinned (OpenSpec.ofChange ivalMostSpec)

/-- ITS FALSE NEIGHBOUR: 'it returns false'. Refute it at one input. -/
def ivalMostWrong : ChangeSpec := { name := "ivalMost", fn := fun _ => fun
  | [d] => { results := [.lit (.bool false)], args := [d] }
  | _ => none }
def IvalMostWrongFalsely : Prop := ivalMostRow.holds Try.pinned (OpenSpec.ofChange ivalMostWrong)

/-- 'carillonlaw08.IvalTop': WHATEVER THE INPUT: true; the input reads as it did. -/
def ivalTopSpec : ChangeSpec := { name := "ivalTop", fn := fun _ => fun
  | [d1, d2] => { results := [.lit (.bool true)], args := [d1, d2] }
  | _ => none }
def ivalTopRow : OpenClaim := { program := "ythgfdghccadpmaa", sum := "1054d240b9ee81bab7f2881716ebb68719a5414a148d88ae33f13a848bf48a3d", func := "carillon/carillonlaw08.IvalTop", spec := "ivalTop", unfollowed := true, recurses := true, apart := false }
def IvalTopSaid : Prop := ivalTopRow.holds Try.pinned (OpenSpec.ofChange ivalTopSpec)

/-- ITS FALSE NEIGHBOUR: 'it returns false'. Refute it at one input. -/
def ivalTopWrong : ChangeSpec := { name := "ivalTop", fn := fun _ => fun
  | [d1, d2] => { results := [.lit (.bool false)], args := [d1, d2] }
  | _ => none }
def IvalTopWrongFalsely : Prop := ivalTopRow.holds Try.pinned (OpenSpec.ofChange ivalTopWrong)

/- THE SECOND FORM. 'bulk': how many values and letters a reading holds, each counted each time it is reached (what is shared counts as often as it is met; a slice's spare places count too). A statement '..UptoSaid' is the law's where the arguments, and the package variables that the reading takes, are together of bulk at most 1048576: NARROWER than '..Said'. Prove '..Said' where nothing that the law and all that it calls make is longer than what came in: it says more and counts as full. Else prove '..UptoSaid'. A law counts once. -/
mutual
def uptoBulk {H : Type} : DataW H → Nat
  | .lit (.string bytes) => bytes.length + 1
  | .lit _ => 1
  | .nil => 1
  | .ptr d => uptoBulk d + 1
  | .slice elems spare => uptoBulkAll elems + uptoBulkAll spare + 1
  | .agg parts => uptoBulkAll parts + 1
  | .iface _ d => uptoBulk d + 1
  | .map entries => uptoBulkEntries entries + 1
  | .held _ => 1
def uptoBulkAll {H : Type} : List (DataW H) → Nat
  | [] => 0
  | d :: r => uptoBulk d + uptoBulkAll r
def uptoBulkEntries {H : Type} : List (Lit × DataW H) → Nat
  | [] => 0
  | x :: r => uptoBulkEntry x + uptoBulkEntries r
def uptoBulkEntry {H : Type} : Lit × DataW H → Nat
  | (.string bytes, d) => bytes.length + uptoBulk d + 1
  | (_, d) => uptoBulk d + 1
 end
def uptoSmall : (H : Type) → List (DataW H) → Bool := fun _ ds => decide (uptoBulkAll ds ≤ 1048576)
def OpenSpec.upto (s : _root_.Go.ChangeSpec) : _root_.Go.OpenSpec := { _root_.Go.OpenSpec.ofChange s with cond := some uptoSmall }

/-- 'carillonlaw08.IvalMakes', WHERE WHAT IT READS IS OF BULK AT MOST 1048576: true; the input reads as it did. -/
def ivalMakesUptoRow : OpenClaim := { program := "ythgfdghccadpmaa", sum := "1054d240b9ee81bab7f2881716ebb68719a5414a148d88ae33f13a848bf48a3d", func := "carillon/carillonlaw08.IvalMakes", spec := "ivalMakes", apart := false, narrowed := true }
def IvalMakesUptoSaid : Prop := ivalMakesUptoRow.holds Try.pinned (OpenSpec.upto ivalMakesSpec)

/-- 'carillonlaw08.IvalMeets', WHERE WHAT IT READS IS OF BULK AT MOST 1048576: true; the input reads as it did. -/
def ivalMeetsUptoRow : OpenClaim := { program := "ythgfdghccadpmaa", sum := "1054d240b9ee81bab7f2881716ebb68719a5414a148d88ae33f13a848bf48a3d", func := "carillon/carillonlaw08.IvalMeets", spec := "ivalMeets", apart := false, narrowed := true }
def IvalMeetsUptoSaid : Prop := ivalMeetsUptoRow.holds Try.pinned (OpenSpec.upto ivalMeetsSpec)

/-- 'carillonlaw08.IvalGrows', WHERE WHAT IT READS IS OF BULK AT MOST 1048576: true; the input reads as it did. -/
def ivalGrowsUptoRow : OpenClaim := { program := "ythgfdghccadpmaa", sum := "1054d240b9ee81bab7f2881716ebb68719a5414a148d88ae33f13a848bf48a3d", func := "carillon/carillonlaw08.IvalGrows", spec := "ivalGrows", apart := false, narrowed := true }
def IvalGrowsUptoSaid : Prop := ivalGrowsUptoRow.holds Try.pinned (OpenSpec.upto ivalGrowsSpec)

/-- 'carillonlaw08.IvalAll', WHERE WHAT IT READS IS OF BULK AT MOST 1048576: true; the input reads as it did. -/
def ivalAllUptoRow : OpenClaim := { program := "ythgfdghccadpmaa", sum := "1054d240b9ee81bab7f2881716ebb68719a5414a148d88ae33f13a848bf48a3d", func := "carillon/carillonlaw08.IvalAll", spec := "ivalAll", apart := false, narrowed := true }
def IvalAllUptoSaid : Prop := ivalAllUptoRow.holds Try.pinned (OpenSpec.upto ivalAllSpec)

/-- 'carillonlaw08.IvalMost', WHERE WHAT IT READS IS OF BULK AT MOST 1048576: true; the input reads as it did. -/
def ivalMostUptoRow : OpenClaim := { program := "ythgfdghccadpmaa", sum := "1054d240b9ee81bab7f2881716ebb68719a5414a148d88ae33f13a848bf48a3d", func := "carillon/carillonlaw08.IvalMost", spec := "ivalMost", unfollowed := true, recurses := true, apart := false, narrowed := true }
def IvalMostUptoSaid : Prop := ivalMostUptoRow.holds Try.pinned (OpenSpec.upto ivalMostSpec)

/-- 'carillonlaw08.IvalTop', WHERE WHAT IT READS IS OF BULK AT MOST 1048576: true; the input reads as it did. -/
def ivalTopUptoRow : OpenClaim := { program := "ythgfdghccadpmaa", sum := "1054d240b9ee81bab7f2881716ebb68719a5414a148d88ae33f13a848bf48a3d", func := "carillon/carillonlaw08.IvalTop", spec := "ivalTop", unfollowed := true, recurses := true, apart := false, narrowed := true }
def IvalTopUptoSaid : Prop := ivalTopUptoRow.holds Try.pinned (OpenSpec.upto ivalTopSpec)

end Rows
end Go.Proofs.Ythgfdghccadpmaa
