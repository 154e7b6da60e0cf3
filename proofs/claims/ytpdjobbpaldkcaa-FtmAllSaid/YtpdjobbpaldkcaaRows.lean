/-
  No cell of these rows narrows 'for every input' (looked for: loops, veiled, ifaces, maps, wideKeys, modest, calm, conditions, laid).
  DERIVED. THE GIVEN ROWS OF THIS SEAT. 4 by the template 'for every input the law returns true; each argument reads behind the call as it read before'; 0 by the template 'total and deterministic' (their statements: YtpdjobbpaldkcaaTotals.lean).
  GIVEN WITH THE SEED: the statements are not yours to turn. If you find one false, say at which input.
  Laid BY PROGRAM, IN A SANDBOX (cutbox-rows.mjs): the forced cells as the released guide's own fill.sh prints them over the translation e1e70968232bc9cd… (all of the seat's roots in one cut). By AI agents, Wed Nov 11 2026. No macro, syntax, notation, axiom, sorry.
-/
import Derived.Test.YtpdjobbpaldkcaaChecked
import GoSem.Claim
import GoSem.ClaimJoined
import GoSem.ClaimMapViews
import Derived.JoinedTies
import Derived.KernelRfl
namespace Go.Proofs.Ytpdjobbpaldkcaa
/- THE CELL 'sum', in the pinned program and in every row, IS THE sha256 OF THE DUMP (.gsa) THAT YtpdjobbpaldkcaaProg.lean LOADS. Nothing in Lean hashes anything: it is a label: what it is worth is what the hold of that sum in a sandbox is worth. -/
noncomputable def Try.pinned : Pinned := { name := "ytpdjobbpaldkcaa", sum := "e1e70968232bc9cddea0e4153ce4e83dc0854c4eecec200ea896bb7a276e683d", checked := Try.checked }
namespace Rows
def none {H : Type} : Left H := { results := [], args := [] }

/-- 'carillonlaw25.FtmBetween': WHATEVER THE INPUT: true; the input reads as it did. -/
def ftmBetweenSpec : ChangeSpec := { name := "ftmBetween", fn := fun _ => fun
  | [d1, d2] => { results := [.lit (.bool true)], args := [d1, d2] }
  | _ => none }
def ftmBetweenRow : OpenClaim := { program := "ytpdjobbpaldkcaa", sum := "e1e70968232bc9cddea0e4153ce4e83dc0854c4eecec200ea896bb7a276e683d", func := "carillon/carillonlaw25.FtmBetween", spec := "ftmBetween", apart := false }
def FtmBetweenSaid : Prop := ftmBetweenRow.holds Try.pinned (OpenSpec.ofChange ftmBetweenSpec)

/-- ITS FALSE NEIGHBOUR: 'it returns false'. Refute it at one input. -/
def ftmBetweenWrong : ChangeSpec := { name := "ftmBetween", fn := fun _ => fun
  | [d1, d2] => { results := [.lit (.bool false)], args := [d1, d2] }
  | _ => none }
def FtmBetweenWrongFalsely : Prop := ftmBetweenRow.holds Try.pinned (OpenSpec.ofChange ftmBetweenWrong)

/-- 'carillonlaw25.FtmNearer': WHATEVER THE INPUT: true; the input reads as it did. -/
def ftmNearerSpec : ChangeSpec := { name := "ftmNearer", fn := fun _ => fun
  | [d1, d2, d3] => { results := [.lit (.bool true)], args := [d1, d2, d3] }
  | _ => none }
def ftmNearerRow : OpenClaim := { program := "ytpdjobbpaldkcaa", sum := "e1e70968232bc9cddea0e4153ce4e83dc0854c4eecec200ea896bb7a276e683d", func := "carillon/carillonlaw25.FtmNearer", spec := "ftmNearer", apart := false }
def FtmNearerSaid : Prop := ftmNearerRow.holds Try.pinned (OpenSpec.ofChange ftmNearerSpec)

/-- ITS FALSE NEIGHBOUR: 'it returns false'. Refute it at one input. -/
def ftmNearerWrong : ChangeSpec := { name := "ftmNearer", fn := fun _ => fun
  | [d1, d2, d3] => { results := [.lit (.bool false)], args := [d1, d2, d3] }
  | _ => none }
def FtmNearerWrongFalsely : Prop := ftmNearerRow.holds Try.pinned (OpenSpec.ofChange ftmNearerWrong)

/-- 'carillonlaw25.FtmShift': WHATEVER THE INPUT: true; the input reads as it did. -/
def ftmShiftSpec : ChangeSpec := { name := "ftmShift", fn := fun _ => fun
  | [d1, d2, d3] => { results := [.lit (.bool true)], args := [d1, d2, d3] }
  | _ => none }
def ftmShiftRow : OpenClaim := { program := "ytpdjobbpaldkcaa", sum := "e1e70968232bc9cddea0e4153ce4e83dc0854c4eecec200ea896bb7a276e683d", func := "carillon/carillonlaw25.FtmShift", spec := "ftmShift", apart := false }
def FtmShiftSaid : Prop := ftmShiftRow.holds Try.pinned (OpenSpec.ofChange ftmShiftSpec)

/-- ITS FALSE NEIGHBOUR: 'it returns false'. Refute it at one input. -/
def ftmShiftWrong : ChangeSpec := { name := "ftmShift", fn := fun _ => fun
  | [d1, d2, d3] => { results := [.lit (.bool false)], args := [d1, d2, d3] }
  | _ => none }
def FtmShiftWrongFalsely : Prop := ftmShiftRow.holds Try.pinned (OpenSpec.ofChange ftmShiftWrong)

/-- 'carillonlaw25.FtmAll': WHATEVER THE INPUT: true; the input reads as it did. -/
def ftmAllSpec : ChangeSpec := { name := "ftmAll", fn := fun _ => fun
  | [d1, d2, d3, d4] => { results := [.lit (.bool true)], args := [d1, d2, d3, d4] }
  | _ => none }
def ftmAllRow : OpenClaim := { program := "ytpdjobbpaldkcaa", sum := "e1e70968232bc9cddea0e4153ce4e83dc0854c4eecec200ea896bb7a276e683d", func := "carillon/carillonlaw25.FtmAll", spec := "ftmAll", apart := false }
def FtmAllSaid : Prop := ftmAllRow.holds Try.pinned (OpenSpec.ofChange ftmAllSpec)

/-- ITS FALSE NEIGHBOUR: 'it returns false'. Refute it at one input. -/
def ftmAllWrong : ChangeSpec := { name := "ftmAll", fn := fun _ => fun
  | [d1, d2, d3, d4] => { results := [.lit (.bool false)], args := [d1, d2, d3, d4] }
  | _ => none }
def FtmAllWrongFalsely : Prop := ftmAllRow.holds Try.pinned (OpenSpec.ofChange ftmAllWrong)

/- THE SECOND FORM. 'bulk': how many values and letters a reading holds, each counted each time it is reached (what is shared counts as often as it is met; a slice's spare places count too). A statement '..UptoSaid' is the law's where the arguments, and the package variables that the reading takes, are together of bulk at most 1048576: NARROWER than '..Said'. Prove '..Said' where nothing that the law and all that it calls make is longer than what came in: it says more and counts as full. Else prove '..UptoSaid'. A law counts once. -/
mutual
def uptoBulk {H : Type} : DataW H → Nat
  | .lit (.string bytes) => bytes.length + 1
  | .lit _ => 1
  | .nil => 1
  | .ptr d => uptoBulk d + 1
  | .slice elems spare => uptoBulkAll elems + uptoBulkAll spare + 1
  | .agg parts => uptoBulkAll parts + 1
  | .iface _ d => uptoBulk d + 1
  | .map entries => uptoBulkEntries entries + 1
  | .held _ => 1
def uptoBulkAll {H : Type} : List (DataW H) → Nat
  | [] => 0
  | d :: r => uptoBulk d + uptoBulkAll r
def uptoBulkEntries {H : Type} : List (Lit × DataW H) → Nat
  | [] => 0
  | x :: r => uptoBulkEntry x + uptoBulkEntries r
def uptoBulkEntry {H : Type} : Lit × DataW H → Nat
  | (.string bytes, d) => bytes.length + uptoBulk d + 1
  | (_, d) => uptoBulk d + 1
 end
def uptoSmall : (H : Type) → List (DataW H) → Bool := fun _ ds => decide (uptoBulkAll ds ≤ 1048576)
def OpenSpec.upto (s : _root_.Go.ChangeSpec) : _root_.Go.OpenSpec := { _root_.Go.OpenSpec.ofChange s with cond := some uptoSmall }

/-- 'carillonlaw25.FtmBetween', WHERE WHAT IT READS IS OF BULK AT MOST 1048576: true; the input reads as it did. -/
def ftmBetweenUptoRow : OpenClaim := { program := "ytpdjobbpaldkcaa", sum := "e1e70968232bc9cddea0e4153ce4e83dc0854c4eecec200ea896bb7a276e683d", func := "carillon/carillonlaw25.FtmBetween", spec := "ftmBetween", apart := false, narrowed := true }
def FtmBetweenUptoSaid : Prop := ftmBetweenUptoRow.holds Try.pinned (OpenSpec.upto ftmBetweenSpec)

/-- 'carillonlaw25.FtmNearer', WHERE WHAT IT READS IS OF BULK AT MOST 1048576: true; the input reads as it did. -/
def ftmNearerUptoRow : OpenClaim := { program := "ytpdjobbpaldkcaa", sum := "e1e70968232bc9cddea0e4153ce4e83dc0854c4eecec200ea896bb7a276e683d", func := "carillon/carillonlaw25.FtmNearer", spec := "ftmNearer", apart := false, narrowed := true }
def FtmNearerUptoSaid : Prop := ftmNearerUptoRow.holds Try.pinned (OpenSpec.upto ftmNearerSpec)

/-- 'carillonlaw25.FtmShift', WHERE WHAT IT READS IS OF BULK AT MOST 1048576: true; the input reads as it did. -/
def ftmShiftUptoRow : OpenClaim := { program := "ytpdjobbpaldkcaa", sum := "e1e70968232bc9cddea0e4153ce4e83dc0854c4eecec200ea896bb7a276e683d", func := "carillon/carillonlaw25.FtmShift", spec := "ftmShift", apart := false, narrowed := true }
def FtmShiftUptoSaid : Prop := ftmShiftUptoRow.holds Try.pinned (OpenSpec.upto ftmShiftSpec)

/-- 'carillonlaw25.FtmAll', WHERE WHAT IT READS IS OF BULK AT MOST 1048576: true; the input reads as it did. -/
def ftmAllUptoRow : OpenClaim := { program := "ytpdjobbpaldkcaa", sum := "e1e70968232bc9cddea0e4153ce4e83dc0854c4eecec200ea896bb7a276e683d", func := "carillon/carillonlaw25.FtmAll", spec := "ftmAll", apart := false, narrowed := true }
def FtmAllUptoSaid : Prop := ftmAllUptoRow.holds Try.pinned (OpenSpec.upto ftmAllSpec)

end Rows
end Go.Proofs.Ytpdjobbpaldkcaa
