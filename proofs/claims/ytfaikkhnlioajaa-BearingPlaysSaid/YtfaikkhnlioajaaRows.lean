/-
  No cell of these rows narrows 'for every input' (looked for: loops, veiled, ifaces, maps, wideKeys, modest, calm, conditions, laid).
  DERIVED. THE GIVEN ROWS OF THIS SEAT. 8 by the template 'for every input the law returns true; each argument reads behind the call as it read before'; 0 by the template 'total and deterministic' (their statements: YtfaikkhnlioajaaTotals.lean).
  GIVEN WITH THE SEED: the statements are not yours to turn. If you find one false, say at which input.
  Laid BY PROGRAM, IN A SANDBOX (cutbox-rows.mjs): the forced cells as the released guide's own fill.sh prints them over the translation e14ffdc1196d2592… (all of the seat's roots in one cut). By AI agents, Wed Nov 11 2026. No macro, syntax, notation, axiom, sorry.
-/
import Derived.Test.YtfaikkhnlioajaaChecked
import GoSem.Claim
import GoSem.ClaimJoined
import GoSem.ClaimMapViews
import Derived.JoinedTies
import Derived.KernelRfl
namespace Go.Proofs.Ytfaikkhnlioajaa
/- THE CELL 'sum', in the pinned program and in every row, IS THE sha256 OF THE DUMP (.gsa) THAT YtfaikkhnlioajaaProg.lean LOADS. Nothing in Lean hashes anything: it is a label: what it is worth is what the hold of that sum in a sandbox is worth. -/
noncomputable def Try.pinned : Pinned := { name := "ytfaikkhnlioajaa", sum := "e14ffdc1196d2592a579fdb7f9553b63f505101dcd2f8422bf33ed784c7af124", checked := Try.checked }
namespace Rows
def none {H : Type} : Left H := { results := [], args := [] }

/-- 'carillonlaw19.GuardOnce': WHATEVER THE INPUT: true; the input reads as it did. -/
def guardOnceSpec : ChangeSpec := { name := "guardOnce", fn := fun _ => fun
  | [d1, d2, d3] => { results := [.lit (.bool true)], args := [d1, d2, d3] }
  | _ => none }
def guardOnceRow : OpenClaim := { program := "ytfaikkhnlioajaa", sum := "e14ffdc1196d2592a579fdb7f9553b63f505101dcd2f8422bf33ed784c7af124", func := "carillon/carillonlaw19.GuardOnce", spec := "guardOnce", apart := false }
def GuardOnceSaid : Prop := guardOnceRow.holds Try.pinned (OpenSpec.ofChange guardOnceSpec)

/-- ITS FALSE NEIGHBOUR: 'it returns false'. Refute it at one input. -/
def guardOnceWrong : ChangeSpec := { name := "guardOnce", fn := fun _ => fun
  | [d1, d2, d3] => { results := [.lit (.bool false)], args := [d1, d2, d3] }
  | _ => none }
def GuardOnceWrongFalsely : Prop := guardOnceRow.holds Try.pinned (OpenSpec.ofChange guardOnceWrong)

/-- 'carillonlaw19.GuardFew': WHATEVER THE INPUT: true; the input reads as it did. -/
def guardFewSpec : ChangeSpec := { name := "guardFew", fn := fun _ => fun
  | [d1, d2, d3, d4] => { results := [.lit (.bool true)], args := [d1, d2, d3, d4] }
  | _ => none }
def guardFewRow : OpenClaim := { program := "ytfaikkhnlioajaa", sum := "e14ffdc1196d2592a579fdb7f9553b63f505101dcd2f8422bf33ed784c7af124", func := "carillon/carillonlaw19.GuardFew", spec := "guardFew", apart := false }
def GuardFewSaid : Prop := guardFewRow.holds Try.pinned (OpenSpec.ofChange guardFewSpec)

/-- ITS FALSE NEIGHBOUR: 'it returns false'. Refute it at one input. -/
def guardFewWrong : ChangeSpec := { name := "guardFew", fn := fun _ => fun
  | [d1, d2, d3, d4] => { results := [.lit (.bool false)], args := [d1, d2, d3, d4] }
  | _ => none }
def GuardFewWrongFalsely : Prop := guardFewRow.holds Try.pinned (OpenSpec.ofChange guardFewWrong)

/-- 'carillonlaw19.GuardPlays': WHATEVER THE INPUT: true; the input reads as it did. -/
def guardPlaysSpec : ChangeSpec := { name := "guardPlays", fn := fun _ => fun
  | [d1, d2, d3, d4] => { results := [.lit (.bool true)], args := [d1, d2, d3, d4] }
  | _ => none }
def guardPlaysRow : OpenClaim := { program := "ytfaikkhnlioajaa", sum := "e14ffdc1196d2592a579fdb7f9553b63f505101dcd2f8422bf33ed784c7af124", func := "carillon/carillonlaw19.GuardPlays", spec := "guardPlays", apart := false }
def GuardPlaysSaid : Prop := guardPlaysRow.holds Try.pinned (OpenSpec.ofChange guardPlaysSpec)

/-- ITS FALSE NEIGHBOUR: 'it returns false'. Refute it at one input. -/
def guardPlaysWrong : ChangeSpec := { name := "guardPlays", fn := fun _ => fun
  | [d1, d2, d3, d4] => { results := [.lit (.bool false)], args := [d1, d2, d3, d4] }
  | _ => none }
def GuardPlaysWrongFalsely : Prop := guardPlaysRow.holds Try.pinned (OpenSpec.ofChange guardPlaysWrong)

/-- 'carillonlaw24.BearingTrue': WHATEVER THE INPUT: true; the input reads as it did. -/
def bearingTrueSpec : ChangeSpec := { name := "bearingTrue", fn := fun _ => fun
  | [d1, d2, d3, d4, d5] => { results := [.lit (.bool true)], args := [d1, d2, d3, d4, d5] }
  | _ => none }
def bearingTrueRow : OpenClaim := { program := "ytfaikkhnlioajaa", sum := "e14ffdc1196d2592a579fdb7f9553b63f505101dcd2f8422bf33ed784c7af124", func := "carillon/carillonlaw24.BearingTrue", spec := "bearingTrue", unfollowed := true, recurses := true, apart := false }
def BearingTrueSaid : Prop := bearingTrueRow.holds Try.pinned (OpenSpec.ofChange bearingTrueSpec)

/-- ITS FALSE NEIGHBOUR: 'it returns false'. Refute it at one input. -/
def bearingTrueWrong : ChangeSpec := { name := "bearingTrue", fn := fun _ => fun
  | [d1, d2, d3, d4, d5] => { results := [.lit (.bool false)], args := [d1, d2, d3, d4, d5] }
  | _ => none }
def BearingTrueWrongFalsely : Prop := bearingTrueRow.holds Try.pinned (OpenSpec.ofChange bearingTrueWrong)

/-- 'carillonlaw24.BearingNear': WHATEVER THE INPUT: true; the input reads as it did. -/
def bearingNearSpec : ChangeSpec := { name := "bearingNear", fn := fun _ => fun
  | [d1, d2] => { results := [.lit (.bool true)], args := [d1, d2] }
  | _ => none }
def bearingNearRow : OpenClaim := { program := "ytfaikkhnlioajaa", sum := "e14ffdc1196d2592a579fdb7f9553b63f505101dcd2f8422bf33ed784c7af124", func := "carillon/carillonlaw24.BearingNear", spec := "bearingNear", unfollowed := true, recurses := true, apart := false }
def BearingNearSaid : Prop := bearingNearRow.holds Try.pinned (OpenSpec.ofChange bearingNearSpec)

/-- ITS FALSE NEIGHBOUR: 'it returns false'. Refute it at one input. -/
def bearingNearWrong : ChangeSpec := { name := "bearingNear", fn := fun _ => fun
  | [d1, d2] => { results := [.lit (.bool false)], args := [d1, d2] }
  | _ => none }
def BearingNearWrongFalsely : Prop := bearingNearRow.holds Try.pinned (OpenSpec.ofChange bearingNearWrong)

/-- 'carillonlaw24.BearingPlays': WHATEVER THE INPUT: true; the input reads as it did. -/
def bearingPlaysSpec : ChangeSpec := { name := "bearingPlays", fn := fun _ => fun
  | [d1, d2, d3, d4, d5, d6] => { results := [.lit (.bool true)], args := [d1, d2, d3, d4, d5, d6] }
  | _ => none }
def bearingPlaysRow : OpenClaim := { program := "ytfaikkhnlioajaa", sum := "e14ffdc1196d2592a579fdb7f9553b63f505101dcd2f8422bf33ed784c7af124", func := "carillon/carillonlaw24.BearingPlays", spec := "bearingPlays", unfollowed := true, recurses := true, apart := false }
def BearingPlaysSaid : Prop := bearingPlaysRow.holds Try.pinned (OpenSpec.ofChange bearingPlaysSpec)

/-- ITS FALSE NEIGHBOUR: 'it returns false'. Refute it at one input. -/
def bearingPlaysWrong : ChangeSpec := { name := "bearingPlays", fn := fun _ => fun
  | [d1, d2, d3, d4, d5, d6] => { results := [.lit (.bool false)], args := [d1, d2, d3, d4, d5, d6] }
  | _ => none }
def BearingPlaysWrongFalsely : Prop := bearingPlaysRow.holds Try.pinned (OpenSpec.ofChange bearingPlaysWrong)

/-- 'carillonlaw08.IvalMost': WHATEVER THE INPUT: true; the input reads as it did. -/
def ivalMostSpec : ChangeSpec := { name := "ivalMost", fn := fun _ => fun
  | [d] => { results := [.lit (.bool true)], args := [d] }
  | _ => none }
def ivalMostRow : OpenClaim := { program := "ytfaikkhnlioajaa", sum := "e14ffdc1196d2592a579fdb7f9553b63f505101dcd2f8422bf33ed784c7af124", func := "carillon/carillonlaw08.IvalMost", spec := "ivalMost", unfollowed := true, recurses := true, apart := false }
def IvalMostSaid : Prop := ivalMostRow.holds Try.pinned (OpenSpec.ofChange ivalMostSpec)

/-- ITS FALSE NEIGHBOUR: 'it returns false'. Refute it at one input. -/
def ivalMostWrong : ChangeSpec := { name := "ivalMost", fn := fun _ => fun
  | [d] => { results := [.lit (.bool false)], args := [d] }
  | _ => none }
def IvalMostWrongFalsely : Prop := ivalMostRow.holds Try.pinned (OpenSpec.ofChange ivalMostWrong)

/-- 'carillonlaw08.IvalTop': WHATEVER THE INPUT: true; the input reads as it did. -/
def ivalTopSpec : ChangeSpec := { name := "ivalTop", fn := fun _ => fun
  | [d1, d2] => { results := [.lit (.bool true)], args := [d1, d2] }
  | _ => none }
def ivalTopRow : OpenClaim := { program := "ytfaikkhnlioajaa", sum := "e14ffdc1196d2592a579fdb7f9553b63f505101dcd2f8422bf33ed784c7af124", func := "carillon/carillonlaw08.IvalTop", spec := "ivalTop", unfollowed := true, recurses := true, apart := false }
def IvalTopSaid : Prop := ivalTopRow.holds Try.pinned (OpenSpec.ofChange ivalTopSpec)

/-- ITS FALSE NEIGHBOUR: 'it returns false'. Refute it at one input. -/
def ivalTopWrong : ChangeSpec := { name := "ivalTop", fn := fun _ => fun
  | [d1, d2] => { results := [.lit (.bool false)], args := [d1, d2] }
  | _ => none }
def IvalTopWrongFalsely : Prop := ivalTopRow.holds Try.pinned (OpenSpec.ofChange ivalTopWrong)

/- THE SECOND FORM. 'bulk': how many values and letters a reading holds, each counted each time it is reached (what is shared counts as often as it is met; a slice's spare places count too). A statement '..UptoSaid' is the law's where the arguments, and the package variables that the reading takes, are together of bulk at most 1048576: NARROWER than '..Said'. Prove '..Said' where nothing that the law and all that it calls make is longer than what came in: it says more and counts as full. Else prove '..UptoSaid'. A law counts once. -/
mutual
def uptoBulk {H : Type} : DataW H → Nat
  | .lit (.string bytes) => bytes.length + 1
  | .lit _ => 1
  | .nil => 1
  | .ptr d => uptoBulk d + 1
  | .slice elems spare => uptoBulkAll elems + uptoBulkAll spare + 1
  | .agg parts => uptoBulkAll parts + 1
  | .iface _ d => uptoBulk d + 1
  | .map entries => uptoBulkEntries entries + 1
  | .held _ => 1
def uptoBulkAll {H : Type} : List (DataW H) → Nat
  | [] => 0
  | d :: r => uptoBulk d + uptoBulkAll r
def uptoBulkEntries {H : Type} : List (Lit × DataW H) → Nat
  | [] => 0
  | x :: r => uptoBulkEntry x + uptoBulkEntries r
def uptoBulkEntry {H : Type} : Lit × DataW H → Nat
  | (.string bytes, d) => bytes.length + uptoBulk d + 1
  | (_, d) => uptoBulk d + 1
 end
def uptoSmall : (H : Type) → List (DataW H) → Bool := fun _ ds => decide (uptoBulkAll ds ≤ 1048576)
def OpenSpec.upto (s : _root_.Go.ChangeSpec) : _root_.Go.OpenSpec := { _root_.Go.OpenSpec.ofChange s with cond := some uptoSmall }

/-- 'carillonlaw19.GuardOnce', WHERE WHAT IT READS IS OF BULK AT MOST 1048576: true; the input reads as it did. -/
def guardOnceUptoRow : OpenClaim := { program := "ytfaikkhnlioajaa", sum := "e14ffdc1196d2592a579fdb7f9553b63f505101dcd2f8422bf33ed784c7af124", func := "carillon/carillonlaw19.GuardOnce", spec := "guardOnce", apart := false, narrowed := true }
def GuardOnceUptoSaid : Prop := guardOnceUptoRow.holds Try.pinned (OpenSpec.upto guardOnceSpec)

/-- 'carillonlaw19.GuardFew', WHERE WHAT IT READS IS OF BULK AT MOST 1048576: true; the input reads as it did. -/
def guardFewUptoRow : OpenClaim := { program := "ytfaikkhnlioajaa", sum := "e14ffdc1196d2592a579fdb7f9553b63f505101dcd2f8422bf33ed784c7af124", func := "carillon/carillonlaw19.GuardFew", spec := "guardFew", apart := false, narrowed := true }
def GuardFewUptoSaid : Prop := guardFewUptoRow.holds Try.pinned (OpenSpec.upto guardFewSpec)

/-- 'carillonlaw19.GuardPlays', WHERE WHAT IT READS IS OF BULK AT MOST 1048576: true; the input reads as it did. -/
def guardPlaysUptoRow : OpenClaim := { program := "ytfaikkhnlioajaa", sum := "e14ffdc1196d2592a579fdb7f9553b63f505101dcd2f8422bf33ed784c7af124", func := "carillon/carillonlaw19.GuardPlays", spec := "guardPlays", apart := false, narrowed := true }
def GuardPlaysUptoSaid : Prop := guardPlaysUptoRow.holds Try.pinned (OpenSpec.upto guardPlaysSpec)

/-- 'carillonlaw24.BearingTrue', WHERE WHAT IT READS IS OF BULK AT MOST 1048576: true; the input reads as it did. -/
def bearingTrueUptoRow : OpenClaim := { program := "ytfaikkhnlioajaa", sum := "e14ffdc1196d2592a579fdb7f9553b63f505101dcd2f8422bf33ed784c7af124", func := "carillon/carillonlaw24.BearingTrue", spec := "bearingTrue", unfollowed := true, recurses := true, apart := false, narrowed := true }
def BearingTrueUptoSaid : Prop := bearingTrueUptoRow.holds Try.pinned (OpenSpec.upto bearingTrueSpec)

/-- 'carillonlaw24.BearingNear', WHERE WHAT IT READS IS OF BULK AT MOST 1048576: true; the input reads as it did. -/
def bearingNearUptoRow : OpenClaim := { program := "ytfaikkhnlioajaa", sum := "e14ffdc1196d2592a579fdb7f9553b63f505101dcd2f8422bf33ed784c7af124", func := "carillon/carillonlaw24.BearingNear", spec := "bearingNear", unfollowed := true, recurses := true, apart := false, narrowed := true }
def BearingNearUptoSaid : Prop := bearingNearUptoRow.holds Try.pinned (OpenSpec.upto bearingNearSpec)

/-- 'carillonlaw24.BearingPlays', WHERE WHAT IT READS IS OF BULK AT MOST 1048576: true; the input reads as it did. -/
def bearingPlaysUptoRow : OpenClaim := { program := "ytfaikkhnlioajaa", sum := "e14ffdc1196d2592a579fdb7f9553b63f505101dcd2f8422bf33ed784c7af124", func := "carillon/carillonlaw24.BearingPlays", spec := "bearingPlays", unfollowed := true, recurses := true, apart := false, narrowed := true }
def BearingPlaysUptoSaid : Prop := bearingPlaysUptoRow.holds Try.pinned (OpenSpec.upto bearingPlaysSpec)

/-- 'carillonlaw08.IvalMost', WHERE WHAT IT READS IS OF BULK AT MOST 1048576: true; the input reads as it did. -/
def ivalMostUptoRow : OpenClaim := { program := "ytfaikkhnlioajaa", sum := "e14ffdc1196d2592a579fdb7f9553b63f505101dcd2f8422bf33ed784c7af124", func := "carillon/carillonlaw08.IvalMost", spec := "ivalMost", unfollowed := true, recurses := true, apart := false, narrowed := true }
def IvalMostUptoSaid : Prop := ivalMostUptoRow.holds Try.pinned (OpenSpec.upto ivalMostSpec)

/-- 'carillonlaw08.IvalTop', WHERE WHAT IT READS IS OF BULK AT MOST 1048576: true; the input reads as it did. -/
def ivalTopUptoRow : OpenClaim := { program := "ytfaikkhnlioajaa", sum := "e14ffdc1196d2592a579fdb7f9553b63f505101dcd2f8422bf33ed784c7af124", func := "carillon/carillonlaw08.IvalTop", spec := "ivalTop", unfollowed := true, recurses := true, apart := false, narrowed := true }
def IvalTopUptoSaid : Prop := ivalTopUptoRow.holds Try.pinned (OpenSpec.upto ivalTopSpec)

end Rows
end Go.Proofs.Ytfaikkhnlioajaa
