/-
  No cell of these rows narrows 'for every input' (looked for: loops, veiled, ifaces, maps, wideKeys, modest, calm, conditions, laid).
  DERIVED. THE GIVEN ROWS OF THIS SEAT. 4 by the template 'for every input the law returns true; each argument reads behind the call as it read before'; 0 by the template 'total and deterministic' (their statements: YthgihjahpjggoaaTotals.lean).
  GIVEN WITH THE SEED: the statements are not yours to turn. If you find one false, say at which input.
  Laid BY PROGRAM, IN A SANDBOX (cutbox-rows.mjs): the forced cells as the released guide's own fill.sh prints them over the translation 6c49cf0e0645904b… (all of the seat's roots in one cut). By AI agents, Wed Nov 11 2026. No macro, syntax, notation, axiom, sorry.
-/
import Derived.Test.YthgihjahpjggoaaChecked
import GoSem.Claim
import GoSem.ClaimJoined
import GoSem.ClaimMapViews
import Derived.JoinedTies
import Derived.KernelRfl
namespace Go.Proofs.Ythgihjahpjggoaa
/- THE CELL 'sum', in the pinned program and in every row, IS THE sha256 OF THE DUMP (.gsa) THAT YthgihjahpjggoaaProg.lean LOADS. Nothing in Lean hashes anything: it is a label: what it is worth is what the hold of that sum in a sandbox is worth. -/
noncomputable def Try.pinned : Pinned := { name := "ythgihjahpjggoaa", sum := "6c49cf0e0645904b0d0439e0e01a9289085bb840e29601a0e0a87553cea6b0ca", checked := Try.checked }
namespace Rows
def none {H : Type} : Left H := { results := [], args := [] }

/-- 'stopcocklaw19.PrrTells': WHATEVER THE INPUT: true; the input reads as it did. -/
def prrTellsSpec : ChangeSpec := { name := "prrTells", fn := fun _ => fun
  | [d1, d2, d3, d4, d5, d6] => { results := [.lit (.bool true)], args := [d1, d2, d3, d4, d5, d6] }
  | _ => none }
def prrTellsRow : OpenClaim := { program := "ythgihjahpjggoaa", sum := "6c49cf0e0645904b0d0439e0e01a9289085bb840e29601a0e0a87553cea6b0ca", func := "stopcock/stopcocklaw19.PrrTells", spec := "prrTells", apart := false }
def PrrTellsSaid : Prop := prrTellsRow.holds Try.pinned (OpenSpec.ofChange prrTellsSpec)

/-- ITS FALSE NEIGHBOUR: 'it returns false'. Refute it at one input. -/
def prrTellsWrong : ChangeSpec := { name := "prrTells", fn := fun _ => fun
  | [d1, d2, d3, d4, d5, d6] => { results := [.lit (.bool false)], args := [d1, d2, d3, d4, d5, d6] }
  | _ => none }
def PrrTellsWrongFalsely : Prop := prrTellsRow.holds Try.pinned (OpenSpec.ofChange prrTellsWrong)

/-- 'stopcocklaw19.PrrRates': WHATEVER THE INPUT: true; the input reads as it did. -/
def prrRatesSpec : ChangeSpec := { name := "prrRates", fn := fun _ => fun
  | [d1, d2, d3, d4, d5] => { results := [.lit (.bool true)], args := [d1, d2, d3, d4, d5] }
  | _ => none }
def prrRatesRow : OpenClaim := { program := "ythgihjahpjggoaa", sum := "6c49cf0e0645904b0d0439e0e01a9289085bb840e29601a0e0a87553cea6b0ca", func := "stopcock/stopcocklaw19.PrrRates", spec := "prrRates", apart := false }
def PrrRatesSaid : Prop := prrRatesRow.holds Try.pinned (OpenSpec.ofChange prrRatesSpec)

/-- ITS FALSE NEIGHBOUR: 'it returns false'. Refute it at one input. -/
def prrRatesWrong : ChangeSpec := { name := "prrRates", fn := fun _ => fun
  | [d1, d2, d3, d4, d5] => { results := [.lit (.bool false)], args := [d1, d2, d3, d4, d5] }
  | _ => none }
def PrrRatesWrongFalsely : Prop := prrRatesRow.holds Try.pinned (OpenSpec.ofChange prrRatesWrong)

/-- 'stopcocklaw19.PrrSteady': WHATEVER THE INPUT: true; the input reads as it did. -/
def prrSteadySpec : ChangeSpec := { name := "prrSteady", fn := fun _ => fun
  | [d1, d2, d3] => { results := [.lit (.bool true)], args := [d1, d2, d3] }
  | _ => none }
def prrSteadyRow : OpenClaim := { program := "ythgihjahpjggoaa", sum := "6c49cf0e0645904b0d0439e0e01a9289085bb840e29601a0e0a87553cea6b0ca", func := "stopcock/stopcocklaw19.PrrSteady", spec := "prrSteady", apart := false }
def PrrSteadySaid : Prop := prrSteadyRow.holds Try.pinned (OpenSpec.ofChange prrSteadySpec)

/-- ITS FALSE NEIGHBOUR: 'it returns false'. Refute it at one input. -/
def prrSteadyWrong : ChangeSpec := { name := "prrSteady", fn := fun _ => fun
  | [d1, d2, d3] => { results := [.lit (.bool false)], args := [d1, d2, d3] }
  | _ => none }
def PrrSteadyWrongFalsely : Prop := prrSteadyRow.holds Try.pinned (OpenSpec.ofChange prrSteadyWrong)

/-- 'stopcocklaw19.PrrKeeps': WHATEVER THE INPUT: true; the input reads as it did. -/
def prrKeepsSpec : ChangeSpec := { name := "prrKeeps", fn := fun _ => fun
  | [d1, d2, d3, d4, d5] => { results := [.lit (.bool true)], args := [d1, d2, d3, d4, d5] }
  | _ => none }
def prrKeepsRow : OpenClaim := { program := "ythgihjahpjggoaa", sum := "6c49cf0e0645904b0d0439e0e01a9289085bb840e29601a0e0a87553cea6b0ca", func := "stopcock/stopcocklaw19.PrrKeeps", spec := "prrKeeps", apart := false }
def PrrKeepsSaid : Prop := prrKeepsRow.holds Try.pinned (OpenSpec.ofChange prrKeepsSpec)

/-- ITS FALSE NEIGHBOUR: 'it returns false'. Refute it at one input. -/
def prrKeepsWrong : ChangeSpec := { name := "prrKeeps", fn := fun _ => fun
  | [d1, d2, d3, d4, d5] => { results := [.lit (.bool false)], args := [d1, d2, d3, d4, d5] }
  | _ => none }
def PrrKeepsWrongFalsely : Prop := prrKeepsRow.holds Try.pinned (OpenSpec.ofChange prrKeepsWrong)

/- THE SECOND FORM. 'bulk': how many values and letters a reading holds, each counted each time it is reached (what is shared counts as often as it is met; a slice's spare places count too). A statement '..UptoSaid' is the law's where the arguments, and the package variables that the reading takes, are together of bulk at most 1048576: NARROWER than '..Said'. Prove '..Said' where nothing that the law and all that it calls make is longer than what came in: it says more and counts as full. Else prove '..UptoSaid'. A law counts once. -/
mutual
def uptoBulk {H : Type} : DataW H → Nat
  | .lit (.string bytes) => bytes.length + 1
  | .lit _ => 1
  | .nil => 1
  | .ptr d => uptoBulk d + 1
  | .slice elems spare => uptoBulkAll elems + uptoBulkAll spare + 1
  | .agg parts => uptoBulkAll parts + 1
  | .iface _ d => uptoBulk d + 1
  | .map entries => uptoBulkEntries entries + 1
  | .held _ => 1
def uptoBulkAll {H : Type} : List (DataW H) → Nat
  | [] => 0
  | d :: r => uptoBulk d + uptoBulkAll r
def uptoBulkEntries {H : Type} : List (Lit × DataW H) → Nat
  | [] => 0
  | x :: r => uptoBulkEntry x + uptoBulkEntries r
def uptoBulkEntry {H : Type} : Lit × DataW H → Nat
  | (.string bytes, d) => bytes.length + uptoBulk d + 1
  | (_, d) => uptoBulk d + 1
 end
def uptoSmall : (H : Type) → List (DataW H) → Bool := fun _ ds => decide (uptoBulkAll ds ≤ 1048576)
def OpenSpec.upto (s : _root_.Go.ChangeSpec) : _root_.Go.OpenSpec := { _root_.Go.OpenSpec.ofChange s with cond := some uptoSmall }

/-- 'stopcocklaw19.PrrTells', WHERE WHAT IT READS IS OF BULK AT MOST 1048576: true; the input reads as it did. -/
def prrTellsUptoRow : OpenClaim := { program := "ythgihjahpjggoaa", sum := "6c49cf0e0645904b0d0439e0e01a9289085bb840e29601a0e0a87553cea6b0ca", func := "stopcock/stopcocklaw19.PrrTells", spec := "prrTells", apart := false, narrowed := true }
def PrrTellsUptoSaid : Prop := prrTellsUptoRow.holds Try.pinned (OpenSpec.upto prrTellsSpec)

/-- 'stopcocklaw19.PrrRates', WHERE WHAT IT READS IS OF BULK AT MOST 1048576: true; the input reads as it did. -/
def prrRatesUptoRow : OpenClaim := { program := "ythgihjahpjggoaa", sum := "6c49cf0e0645904b0d0439e0e01a9289085bb840e29601a0e0a87553cea6b0ca", func := "stopcock/stopcocklaw19.PrrRates", spec := "prrRates", apart := false, narrowed := true }
def PrrRatesUptoSaid : Prop := prrRatesUptoRow.holds Try.pinned (OpenSpec.upto prrRatesSpec)

/-- 'stopcocklaw19.PrrSteady', WHERE WHAT IT READS IS OF BULK AT MOST 1048576: true; the input reads as it did. -/
def prrSteadyUptoRow : OpenClaim := { program := "ythgihjahpjggoaa", sum := "6c49cf0e0645904b0d0439e0e01a9289085bb840e29601a0e0a87553cea6b0ca", func := "stopcock/stopcocklaw19.PrrSteady", spec := "prrSteady", apart := false, narrowed := true }
def PrrSteadyUptoSaid : Prop := prrSteadyUptoRow.holds Try.pinned (OpenSpec.upto prrSteadySpec)

/-- 'stopcocklaw19.PrrKeeps', WHERE WHAT IT READS IS OF BULK AT MOST 1048576: true; the input reads as it did. -/
def prrKeepsUptoRow : OpenClaim := { program := "ythgihjahpjggoaa", sum := "6c49cf0e0645904b0d0439e0e01a9289085bb840e29601a0e0a87553cea6b0ca", func := "stopcock/stopcocklaw19.PrrKeeps", spec := "prrKeeps", apart := false, narrowed := true }
def PrrKeepsUptoSaid : Prop := prrKeepsUptoRow.holds Try.pinned (OpenSpec.upto prrKeepsSpec)

end Rows
end Go.Proofs.Ythgihjahpjggoaa
