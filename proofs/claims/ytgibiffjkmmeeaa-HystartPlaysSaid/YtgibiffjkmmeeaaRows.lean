/-
  No cell of these rows narrows 'for every input' (looked for: loops, veiled, ifaces, maps, wideKeys, modest, calm, conditions, laid).
  DERIVED. THE GIVEN ROWS OF THIS SEAT. 4 by the template 'for every input the law returns true; each argument reads behind the call as it read before'; 0 by the template 'total and deterministic' (their statements: YtgibiffjkmmeeaaTotals.lean).
  GIVEN WITH THE SEED: the statements are not yours to turn. If you find one false, say at which input.
  Laid BY PROGRAM, IN A SANDBOX (cutbox-rows.mjs): the forced cells as the released guide's own fill.sh prints them over the translation 27218c72d5f70638… (all of the seat's roots in one cut). By AI agents, Wed Nov 11 2026. No macro, syntax, notation, axiom, sorry.
-/
import Derived.Test.YtgibiffjkmmeeaaChecked
import GoSem.Claim
import GoSem.ClaimJoined
import GoSem.ClaimMapViews
import Derived.JoinedTies
import Derived.KernelRfl
namespace Go.Proofs.Ytgibiffjkmmeeaa
/- THE CELL 'sum', in the pinned program and in every row, IS THE sha256 OF THE DUMP (.gsa) THAT YtgibiffjkmmeeaaProg.lean LOADS. Nothing in Lean hashes anything: it is a label: what it is worth is what the hold of that sum in a sandbox is worth. -/
noncomputable def Try.pinned : Pinned := { name := "ytgibiffjkmmeeaa", sum := "27218c72d5f706388bca0f36970e93f1544e52b14028fef05eef12538bd94137", checked := Try.checked }
namespace Rows
def none {H : Type} : Left H := { results := [], args := [] }

/-- 'stopcocklaw22.HystartCalm': WHATEVER THE INPUT: true; the input reads as it did. -/
def hystartCalmSpec : ChangeSpec := { name := "hystartCalm", fn := fun _ => fun
  | [d1, d2] => { results := [.lit (.bool true)], args := [d1, d2] }
  | _ => none }
def hystartCalmRow : OpenClaim := { program := "ytgibiffjkmmeeaa", sum := "27218c72d5f706388bca0f36970e93f1544e52b14028fef05eef12538bd94137", func := "stopcock/stopcocklaw22.HystartCalm", spec := "hystartCalm", apart := false }
def HystartCalmSaid : Prop := hystartCalmRow.holds Try.pinned (OpenSpec.ofChange hystartCalmSpec)

/-- ITS FALSE NEIGHBOUR: 'it returns false'. Refute it at one input. -/
def hystartCalmWrong : ChangeSpec := { name := "hystartCalm", fn := fun _ => fun
  | [d1, d2] => { results := [.lit (.bool false)], args := [d1, d2] }
  | _ => none }
def HystartCalmWrongFalsely : Prop := hystartCalmRow.holds Try.pinned (OpenSpec.ofChange hystartCalmWrong)

/-- 'stopcocklaw22.HystartLeaves': WHATEVER THE INPUT: true; the input reads as it did. -/
def hystartLeavesSpec : ChangeSpec := { name := "hystartLeaves", fn := fun _ => fun
  | [d1, d2] => { results := [.lit (.bool true)], args := [d1, d2] }
  | _ => none }
def hystartLeavesRow : OpenClaim := { program := "ytgibiffjkmmeeaa", sum := "27218c72d5f706388bca0f36970e93f1544e52b14028fef05eef12538bd94137", func := "stopcock/stopcocklaw22.HystartLeaves", spec := "hystartLeaves", apart := false }
def HystartLeavesSaid : Prop := hystartLeavesRow.holds Try.pinned (OpenSpec.ofChange hystartLeavesSpec)

/-- ITS FALSE NEIGHBOUR: 'it returns false'. Refute it at one input. -/
def hystartLeavesWrong : ChangeSpec := { name := "hystartLeaves", fn := fun _ => fun
  | [d1, d2] => { results := [.lit (.bool false)], args := [d1, d2] }
  | _ => none }
def HystartLeavesWrongFalsely : Prop := hystartLeavesRow.holds Try.pinned (OpenSpec.ofChange hystartLeavesWrong)

/-- 'stopcocklaw22.HystartPlays': WHATEVER THE INPUT: true; the input reads as it did. -/
def hystartPlaysSpec : ChangeSpec := { name := "hystartPlays", fn := fun _ => fun
  | [d] => { results := [.lit (.bool true)], args := [d] }
  | _ => none }
def hystartPlaysRow : OpenClaim := { program := "ytgibiffjkmmeeaa", sum := "27218c72d5f706388bca0f36970e93f1544e52b14028fef05eef12538bd94137", func := "stopcock/stopcocklaw22.HystartPlays", spec := "hystartPlays", apart := false }
def HystartPlaysSaid : Prop := hystartPlaysRow.holds Try.pinned (OpenSpec.ofChange hystartPlaysSpec)

/-- ITS FALSE NEIGHBOUR: 'it returns false'. Refute it at one input. -/
def hystartPlaysWrong : ChangeSpec := { name := "hystartPlays", fn := fun _ => fun
  | [d] => { results := [.lit (.bool false)], args := [d] }
  | _ => none }
def HystartPlaysWrongFalsely : Prop := hystartPlaysRow.holds Try.pinned (OpenSpec.ofChange hystartPlaysWrong)

/-- 'stopcocklaw22.HystartGrows': WHATEVER THE INPUT: true; the input reads as it did. -/
def hystartGrowsSpec : ChangeSpec := { name := "hystartGrows", fn := fun _ => fun
  | [d1, d2] => { results := [.lit (.bool true)], args := [d1, d2] }
  | _ => none }
def hystartGrowsRow : OpenClaim := { program := "ytgibiffjkmmeeaa", sum := "27218c72d5f706388bca0f36970e93f1544e52b14028fef05eef12538bd94137", func := "stopcock/stopcocklaw22.HystartGrows", spec := "hystartGrows", apart := false }
def HystartGrowsSaid : Prop := hystartGrowsRow.holds Try.pinned (OpenSpec.ofChange hystartGrowsSpec)

/-- ITS FALSE NEIGHBOUR: 'it returns false'. Refute it at one input. -/
def hystartGrowsWrong : ChangeSpec := { name := "hystartGrows", fn := fun _ => fun
  | [d1, d2] => { results := [.lit (.bool false)], args := [d1, d2] }
  | _ => none }
def HystartGrowsWrongFalsely : Prop := hystartGrowsRow.holds Try.pinned (OpenSpec.ofChange hystartGrowsWrong)

/- THE SECOND FORM. 'bulk': how many values and letters a reading holds, each counted each time it is reached (what is shared counts as often as it is met; a slice's spare places count too). A statement '..UptoSaid' is the law's where the arguments, and the package variables that the reading takes, are together of bulk at most 1048576: NARROWER than '..Said'. Prove '..Said' where nothing that the law and all that it calls make is longer than what came in: it says more and counts as full. Else prove '..UptoSaid'. A law counts once. -/
mutual
def uptoBulk {H : Type} : DataW H → Nat
  | .lit (.string bytes) => bytes.length + 1
  | .lit _ => 1
  | .nil => 1
  | .ptr d => uptoBulk d + 1
  | .slice elems spare => uptoBulkAll elems + uptoBulkAll spare + 1
  | .agg parts => uptoBulkAll parts + 1
  | .iface _ d => uptoBulk d + 1
  | .map entries => uptoBulkEntries entries + 1
  | .held _ => 1
def uptoBulkAll {H : Type} : List (DataW H) → Nat
  | [] => 0
  | d :: r => uptoBulk d + uptoBulkAll r
def uptoBulkEntries {H : Type} : List (Lit × DataW H) → Nat
  | [] => 0
  | x :: r => uptoBulkEntry x + uptoBulkEntries r
def uptoBulkEntry {H : Type} : Lit × DataW H → Nat
  | (.string bytes, d) => bytes.length + uptoBulk d + 1
  | (_, d) => uptoBulk d + 1
 end
def uptoSmall : (H : Type) → List (DataW H) → Bool := fun _ ds => decide (uptoBulkAll ds ≤ 1048576)
def OpenSpec.upto (s : _root_.Go.ChangeSpec) : _root_.Go.OpenSpec := { _root_.Go.OpenSpec.ofChange s with cond := some uptoSmall }

/-- 'stopcocklaw22.HystartCalm', WHERE WHAT IT READS IS OF BULK AT MOST 1048576: true; the input reads as it did. -/
def hystartCalmUptoRow : OpenClaim := { program := "ytgibiffjkmmeeaa", sum := "27218c72d5f706388bca0f36970e93f1544e52b14028fef05eef12538bd94137", func := "stopcock/stopcocklaw22.HystartCalm", spec := "hystartCalm", apart := false, narrowed := true }
def HystartCalmUptoSaid : Prop := hystartCalmUptoRow.holds Try.pinned (OpenSpec.upto hystartCalmSpec)

/-- 'stopcocklaw22.HystartLeaves', WHERE WHAT IT READS IS OF BULK AT MOST 1048576: true; the input reads as it did. -/
def hystartLeavesUptoRow : OpenClaim := { program := "ytgibiffjkmmeeaa", sum := "27218c72d5f706388bca0f36970e93f1544e52b14028fef05eef12538bd94137", func := "stopcock/stopcocklaw22.HystartLeaves", spec := "hystartLeaves", apart := false, narrowed := true }
def HystartLeavesUptoSaid : Prop := hystartLeavesUptoRow.holds Try.pinned (OpenSpec.upto hystartLeavesSpec)

/-- 'stopcocklaw22.HystartPlays', WHERE WHAT IT READS IS OF BULK AT MOST 1048576: true; the input reads as it did. -/
def hystartPlaysUptoRow : OpenClaim := { program := "ytgibiffjkmmeeaa", sum := "27218c72d5f706388bca0f36970e93f1544e52b14028fef05eef12538bd94137", func := "stopcock/stopcocklaw22.HystartPlays", spec := "hystartPlays", apart := false, narrowed := true }
def HystartPlaysUptoSaid : Prop := hystartPlaysUptoRow.holds Try.pinned (OpenSpec.upto hystartPlaysSpec)

/-- 'stopcocklaw22.HystartGrows', WHERE WHAT IT READS IS OF BULK AT MOST 1048576: true; the input reads as it did. -/
def hystartGrowsUptoRow : OpenClaim := { program := "ytgibiffjkmmeeaa", sum := "27218c72d5f706388bca0f36970e93f1544e52b14028fef05eef12538bd94137", func := "stopcock/stopcocklaw22.HystartGrows", spec := "hystartGrows", apart := false, narrowed := true }
def HystartGrowsUptoSaid : Prop := hystartGrowsUptoRow.holds Try.pinned (OpenSpec.upto hystartGrowsSpec)

end Rows
end Go.Proofs.Ytgibiffjkmmeeaa
