/-
  No cell of these rows narrows 'for every input' (looked for: loops, veiled, ifaces, maps, wideKeys, modest, calm, conditions, laid).
  DERIVED. THE GIVEN ROWS OF THIS SEAT. 5 by the template 'for every input the law returns true; each argument reads behind the call as it read before'; 0 by the template 'total and deterministic' (their statements: YtgfghinjjidcoaaTotals.lean).
  GIVEN WITH THE SEED: the statements are not yours to turn. If you find one false, say at which input.
  Laid BY PROGRAM, IN A SANDBOX (cutbox-rows.mjs): the forced cells as the released guide's own fill.sh prints them over the translation fa8e9a9d06f0006a… (all of the seat's roots in one cut). By AI agents, Wed Nov 11 2026. No macro, syntax, notation, axiom, sorry.
-/
import Derived.Test.YtgfghinjjidcoaaChecked
import GoSem.Claim
import GoSem.ClaimJoined
import GoSem.ClaimMapViews
import Derived.JoinedTies
import Derived.KernelRfl
namespace Go.Proofs.Ytgfghinjjidcoaa
/- THE CELL 'sum', in the pinned program and in every row, IS THE sha256 OF THE DUMP (.gsa) THAT YtgfghinjjidcoaaProg.lean LOADS. Nothing in Lean hashes anything: it is a label: what it is worth is what the hold of that sum in a sandbox is worth. -/
noncomputable def Try.pinned : Pinned := { name := "ytgfghinjjidcoaa", sum := "fa8e9a9d06f0006afe82bce6a9701a74b92b9bcf949fab9b1fa3037170a9f158", checked := Try.checked }
namespace Rows
def none {H : Type} : Left H := { results := [], args := [] }

/-- 'stopcocklaw07.ToeplitzLinear': WHATEVER THE INPUT: true; the input reads as it did. -/
def toeplitzLinearSpec : ChangeSpec := { name := "toeplitzLinear", fn := fun _ => fun
  | [d1, d2, d3] => { results := [.lit (.bool true)], args := [d1, d2, d3] }
  | _ => none }
def toeplitzLinearRow : OpenClaim := { program := "ytgfghinjjidcoaa", sum := "fa8e9a9d06f0006afe82bce6a9701a74b92b9bcf949fab9b1fa3037170a9f158", func := "stopcock/stopcocklaw07.ToeplitzLinear", spec := "toeplitzLinear", unfollowed := true, recurses := true, apart := false }
def ToeplitzLinearSaid : Prop := toeplitzLinearRow.holds Try.pinned (OpenSpec.ofChange toeplitzLinearSpec)

/-- ITS FALSE NEIGHBOUR: 'it returns false'. Refute it at one input. -/
def toeplitzLinearWrong : ChangeSpec := { name := "toeplitzLinear", fn := fun _ => fun
  | [d1, d2, d3] => { results := [.lit (.bool false)], args := [d1, d2, d3] }
  | _ => none }
def ToeplitzLinearWrongFalsely : Prop := toeplitzLinearRow.holds Try.pinned (OpenSpec.ofChange toeplitzLinearWrong)

/-- 'stopcocklaw07.ToeplitzOwn': WHATEVER THE INPUT: true; the input reads as it did. -/
def toeplitzOwnSpec : ChangeSpec := { name := "toeplitzOwn", fn := fun _ => fun
  | [d1, d2] => { results := [.lit (.bool true)], args := [d1, d2] }
  | _ => none }
def toeplitzOwnRow : OpenClaim := { program := "ytgfghinjjidcoaa", sum := "fa8e9a9d06f0006afe82bce6a9701a74b92b9bcf949fab9b1fa3037170a9f158", func := "stopcock/stopcocklaw07.ToeplitzOwn", spec := "toeplitzOwn", unfollowed := true, recurses := true, apart := false }
def ToeplitzOwnSaid : Prop := toeplitzOwnRow.holds Try.pinned (OpenSpec.ofChange toeplitzOwnSpec)

/-- ITS FALSE NEIGHBOUR: 'it returns false'. Refute it at one input. -/
def toeplitzOwnWrong : ChangeSpec := { name := "toeplitzOwn", fn := fun _ => fun
  | [d1, d2] => { results := [.lit (.bool false)], args := [d1, d2] }
  | _ => none }
def ToeplitzOwnWrongFalsely : Prop := toeplitzOwnRow.holds Try.pinned (OpenSpec.ofChange toeplitzOwnWrong)

/-- 'stopcocklaw07.ToeplitzTells': WHATEVER THE INPUT: true; the input reads as it did. -/
def toeplitzTellsSpec : ChangeSpec := { name := "toeplitzTells", fn := fun _ => fun
  | [d1, d2, d3, d4, d5, d6, d7] => { results := [.lit (.bool true)], args := [d1, d2, d3, d4, d5, d6, d7] }
  | _ => none }
def toeplitzTellsRow : OpenClaim := { program := "ytgfghinjjidcoaa", sum := "fa8e9a9d06f0006afe82bce6a9701a74b92b9bcf949fab9b1fa3037170a9f158", func := "stopcock/stopcocklaw07.ToeplitzTells", spec := "toeplitzTells", unfollowed := true, recurses := true, apart := false }
def ToeplitzTellsSaid : Prop := toeplitzTellsRow.holds Try.pinned (OpenSpec.ofChange toeplitzTellsSpec)

/-- ITS FALSE NEIGHBOUR: 'it returns false'. Refute it at one input. -/
def toeplitzTellsWrong : ChangeSpec := { name := "toeplitzTells", fn := fun _ => fun
  | [d1, d2, d3, d4, d5, d6, d7] => { results := [.lit (.bool false)], args := [d1, d2, d3, d4, d5, d6, d7] }
  | _ => none }
def ToeplitzTellsWrongFalsely : Prop := toeplitzTellsRow.holds Try.pinned (OpenSpec.ofChange toeplitzTellsWrong)

/-- 'stopcocklaw07.ToeplitzPorts': WHATEVER THE INPUT: true; the input reads as it did. -/
def toeplitzPortsSpec : ChangeSpec := { name := "toeplitzPorts", fn := fun _ => fun
  | [d1, d2, d3] => { results := [.lit (.bool true)], args := [d1, d2, d3] }
  | _ => none }
def toeplitzPortsRow : OpenClaim := { program := "ytgfghinjjidcoaa", sum := "fa8e9a9d06f0006afe82bce6a9701a74b92b9bcf949fab9b1fa3037170a9f158", func := "stopcock/stopcocklaw07.ToeplitzPorts", spec := "toeplitzPorts", unfollowed := true, recurses := true, apart := false }
def ToeplitzPortsSaid : Prop := toeplitzPortsRow.holds Try.pinned (OpenSpec.ofChange toeplitzPortsSpec)

/-- ITS FALSE NEIGHBOUR: 'it returns false'. Refute it at one input. -/
def toeplitzPortsWrong : ChangeSpec := { name := "toeplitzPorts", fn := fun _ => fun
  | [d1, d2, d3] => { results := [.lit (.bool false)], args := [d1, d2, d3] }
  | _ => none }
def ToeplitzPortsWrongFalsely : Prop := toeplitzPortsRow.holds Try.pinned (OpenSpec.ofChange toeplitzPortsWrong)

/-- 'stopcocklaw07.ToeplitzOwns': WHATEVER THE INPUT: true; the input reads as it did. -/
def toeplitzOwnsSpec : ChangeSpec := { name := "toeplitzOwns", fn := fun _ => fun
  | [d1, d2, d3] => { results := [.lit (.bool true)], args := [d1, d2, d3] }
  | _ => none }
def toeplitzOwnsRow : OpenClaim := { program := "ytgfghinjjidcoaa", sum := "fa8e9a9d06f0006afe82bce6a9701a74b92b9bcf949fab9b1fa3037170a9f158", func := "stopcock/stopcocklaw07.ToeplitzOwns", spec := "toeplitzOwns", unfollowed := true, recurses := true, apart := false }
def ToeplitzOwnsSaid : Prop := toeplitzOwnsRow.holds Try.pinned (OpenSpec.ofChange toeplitzOwnsSpec)

/-- ITS FALSE NEIGHBOUR: 'it returns false'. Refute it at one input. -/
def toeplitzOwnsWrong : ChangeSpec := { name := "toeplitzOwns", fn := fun _ => fun
  | [d1, d2, d3] => { results := [.lit (.bool false)], args := [d1, d2, d3] }
  | _ => none }
def ToeplitzOwnsWrongFalsely : Prop := toeplitzOwnsRow.holds Try.pinned (OpenSpec.ofChange toeplitzOwnsWrong)

/- THE SECOND FORM. 'bulk': how many values and letters a reading holds, each counted each time it is reached (what is shared counts as often as it is met; a slice's spare places count too). A statement '..UptoSaid' is the law's where the arguments, and the package variables that the reading takes, are together of bulk at most 1048576: NARROWER than '..Said'. Prove '..Said' where nothing that the law and all that it calls make is longer than what came in: it says more and counts as full. Else prove '..UptoSaid'. A law counts once. -/
mutual
def uptoBulk {H : Type} : DataW H → Nat
  | .lit (.string bytes) => bytes.length + 1
  | .lit _ => 1
  | .nil => 1
  | .ptr d => uptoBulk d + 1
  | .slice elems spare => uptoBulkAll elems + uptoBulkAll spare + 1
  | .agg parts => uptoBulkAll parts + 1
  | .iface _ d => uptoBulk d + 1
  | .map entries => uptoBulkEntries entries + 1
  | .held _ => 1
def uptoBulkAll {H : Type} : List (DataW H) → Nat
  | [] => 0
  | d :: r => uptoBulk d + uptoBulkAll r
def uptoBulkEntries {H : Type} : List (Lit × DataW H) → Nat
  | [] => 0
  | x :: r => uptoBulkEntry x + uptoBulkEntries r
def uptoBulkEntry {H : Type} : Lit × DataW H → Nat
  | (.string bytes, d) => bytes.length + uptoBulk d + 1
  | (_, d) => uptoBulk d + 1
 end
def uptoSmall : (H : Type) → List (DataW H) → Bool := fun _ ds => decide (uptoBulkAll ds ≤ 1048576)
def OpenSpec.upto (s : _root_.Go.ChangeSpec) : _root_.Go.OpenSpec := { _root_.Go.OpenSpec.ofChange s with cond := some uptoSmall }

/-- 'stopcocklaw07.ToeplitzLinear', WHERE WHAT IT READS IS OF BULK AT MOST 1048576: true; the input reads as it did. -/
def toeplitzLinearUptoRow : OpenClaim := { program := "ytgfghinjjidcoaa", sum := "fa8e9a9d06f0006afe82bce6a9701a74b92b9bcf949fab9b1fa3037170a9f158", func := "stopcock/stopcocklaw07.ToeplitzLinear", spec := "toeplitzLinear", unfollowed := true, recurses := true, apart := false, narrowed := true }
def ToeplitzLinearUptoSaid : Prop := toeplitzLinearUptoRow.holds Try.pinned (OpenSpec.upto toeplitzLinearSpec)

/-- 'stopcocklaw07.ToeplitzOwn', WHERE WHAT IT READS IS OF BULK AT MOST 1048576: true; the input reads as it did. -/
def toeplitzOwnUptoRow : OpenClaim := { program := "ytgfghinjjidcoaa", sum := "fa8e9a9d06f0006afe82bce6a9701a74b92b9bcf949fab9b1fa3037170a9f158", func := "stopcock/stopcocklaw07.ToeplitzOwn", spec := "toeplitzOwn", unfollowed := true, recurses := true, apart := false, narrowed := true }
def ToeplitzOwnUptoSaid : Prop := toeplitzOwnUptoRow.holds Try.pinned (OpenSpec.upto toeplitzOwnSpec)

/-- 'stopcocklaw07.ToeplitzTells', WHERE WHAT IT READS IS OF BULK AT MOST 1048576: true; the input reads as it did. -/
def toeplitzTellsUptoRow : OpenClaim := { program := "ytgfghinjjidcoaa", sum := "fa8e9a9d06f0006afe82bce6a9701a74b92b9bcf949fab9b1fa3037170a9f158", func := "stopcock/stopcocklaw07.ToeplitzTells", spec := "toeplitzTells", unfollowed := true, recurses := true, apart := false, narrowed := true }
def ToeplitzTellsUptoSaid : Prop := toeplitzTellsUptoRow.holds Try.pinned (OpenSpec.upto toeplitzTellsSpec)

/-- 'stopcocklaw07.ToeplitzPorts', WHERE WHAT IT READS IS OF BULK AT MOST 1048576: true; the input reads as it did. -/
def toeplitzPortsUptoRow : OpenClaim := { program := "ytgfghinjjidcoaa", sum := "fa8e9a9d06f0006afe82bce6a9701a74b92b9bcf949fab9b1fa3037170a9f158", func := "stopcock/stopcocklaw07.ToeplitzPorts", spec := "toeplitzPorts", unfollowed := true, recurses := true, apart := false, narrowed := true }
def ToeplitzPortsUptoSaid : Prop := toeplitzPortsUptoRow.holds Try.pinned (OpenSpec.upto toeplitzPortsSpec)

/-- 'stopcocklaw07.ToeplitzOwns', WHERE WHAT IT READS IS OF BULK AT MOST 1048576: true; the input reads as it did. -/
def toeplitzOwnsUptoRow : OpenClaim := { program := "ytgfghinjjidcoaa", sum := "fa8e9a9d06f0006afe82bce6a9701a74b92b9bcf949fab9b1fa3037170a9f158", func := "stopcock/stopcocklaw07.ToeplitzOwns", spec := "toeplitzOwns", unfollowed := true, recurses := true, apart := false, narrowed := true }
def ToeplitzOwnsUptoSaid : Prop := toeplitzOwnsUptoRow.holds Try.pinned (OpenSpec.upto toeplitzOwnsSpec)

end Rows
end Go.Proofs.Ytgfghinjjidcoaa
