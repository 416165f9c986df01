/-
  No cell of these rows narrows 'for every input' (looked for: loops, veiled, ifaces, maps, wideKeys, modest, calm, conditions, laid).
  DERIVED. THE GIVEN ROWS OF THIS SEAT. 3 by the template 'for every input the law returns true; each argument reads behind the call as it read before'; 0 by the template 'total and deterministic' (their statements: YthfhljdegbcpmaaTotals.lean).
  GIVEN WITH THE SEED: the statements are not yours to turn. If you find one false, say at which input.
  Laid BY PROGRAM, IN A SANDBOX (cutbox-rows.mjs): the forced cells as the released guide's own fill.sh prints them over the translation 525d2349eed6008a… (all of the seat's roots in one cut). By AI agents, Wed Nov 11 2026. No macro, syntax, notation, axiom, sorry.
-/
import Derived.Test.YthfhljdegbcpmaaChecked
import GoSem.Claim
import GoSem.ClaimJoined
import GoSem.ClaimMapViews
import Derived.JoinedTies
import Derived.KernelRfl
namespace Go.Proofs.Ythfhljdegbcpmaa
/- THE CELL 'sum', in the pinned program and in every row, IS THE sha256 OF THE DUMP (.gsa) THAT YthfhljdegbcpmaaProg.lean LOADS. Nothing in Lean hashes anything: it is a label: what it is worth is what the hold of that sum in a sandbox is worth. -/
noncomputable def Try.pinned : Pinned := { name := "ythfhljdegbcpmaa", sum := "525d2349eed6008afda33b2d00401a99b6535985f3f1848d56f241c7ea3a53f0", checked := Try.checked }
namespace Rows
def none {H : Type} : Left H := { results := [], args := [] }

/-- 'stopcocklaw03.EtherOwn': WHATEVER THE INPUT: true; the input reads as it did. -/
def etherOwnSpec : ChangeSpec := { name := "etherOwn", fn := fun _ => fun
  | [d] => { results := [.lit (.bool true)], args := [d] }
  | _ => none }
def etherOwnRow : OpenClaim := { program := "ythfhljdegbcpmaa", sum := "525d2349eed6008afda33b2d00401a99b6535985f3f1848d56f241c7ea3a53f0", func := "stopcock/stopcocklaw03.EtherOwn", spec := "etherOwn", apart := false }
def EtherOwnSaid : Prop := etherOwnRow.holds Try.pinned (OpenSpec.ofChange etherOwnSpec)

/-- ITS FALSE NEIGHBOUR: 'it returns false'. Refute it at one input. -/
def etherOwnWrong : ChangeSpec := { name := "etherOwn", fn := fun _ => fun
  | [d] => { results := [.lit (.bool false)], args := [d] }
  | _ => none }
def EtherOwnWrongFalsely : Prop := etherOwnRow.holds Try.pinned (OpenSpec.ofChange etherOwnWrong)

/-- 'stopcocklaw03.EtherTells': WHATEVER THE INPUT: true; the input reads as it did. -/
def etherTellsSpec : ChangeSpec := { name := "etherTells", fn := fun _ => fun
  | [d1, d2, d3] => { results := [.lit (.bool true)], args := [d1, d2, d3] }
  | _ => none }
def etherTellsRow : OpenClaim := { program := "ythfhljdegbcpmaa", sum := "525d2349eed6008afda33b2d00401a99b6535985f3f1848d56f241c7ea3a53f0", func := "stopcock/stopcocklaw03.EtherTells", spec := "etherTells", apart := false }
def EtherTellsSaid : Prop := etherTellsRow.holds Try.pinned (OpenSpec.ofChange etherTellsSpec)

/-- ITS FALSE NEIGHBOUR: 'it returns false'. Refute it at one input. -/
def etherTellsWrong : ChangeSpec := { name := "etherTells", fn := fun _ => fun
  | [d1, d2, d3] => { results := [.lit (.bool false)], args := [d1, d2, d3] }
  | _ => none }
def EtherTellsWrongFalsely : Prop := etherTellsRow.holds Try.pinned (OpenSpec.ofChange etherTellsWrong)

/-- 'stopcocklaw03.EtherBack': WHATEVER THE INPUT: true; the input reads as it did. -/
def etherBackSpec : ChangeSpec := { name := "etherBack", fn := fun _ => fun
  | [d1, d2, d3] => { results := [.lit (.bool true)], args := [d1, d2, d3] }
  | _ => none }
def etherBackRow : OpenClaim := { program := "ythfhljdegbcpmaa", sum := "525d2349eed6008afda33b2d00401a99b6535985f3f1848d56f241c7ea3a53f0", func := "stopcock/stopcocklaw03.EtherBack", spec := "etherBack", apart := false }
def EtherBackSaid : Prop := etherBackRow.holds Try.pinned (OpenSpec.ofChange etherBackSpec)

/-- ITS FALSE NEIGHBOUR: 'it returns false'. Refute it at one input. -/
def etherBackWrong : ChangeSpec := { name := "etherBack", fn := fun _ => fun
  | [d1, d2, d3] => { results := [.lit (.bool false)], args := [d1, d2, d3] }
  | _ => none }
def EtherBackWrongFalsely : Prop := etherBackRow.holds Try.pinned (OpenSpec.ofChange etherBackWrong)

/- THE SECOND FORM. 'bulk': how many values and letters a reading holds, each counted each time it is reached (what is shared counts as often as it is met; a slice's spare places count too). A statement '..UptoSaid' is the law's where the arguments, and the package variables that the reading takes, are together of bulk at most 1048576: NARROWER than '..Said'. Prove '..Said' where nothing that the law and all that it calls make is longer than what came in: it says more and counts as full. Else prove '..UptoSaid'. A law counts once. -/
mutual
def uptoBulk {H : Type} : DataW H → Nat
  | .lit (.string bytes) => bytes.length + 1
  | .lit _ => 1
  | .nil => 1
  | .ptr d => uptoBulk d + 1
  | .slice elems spare => uptoBulkAll elems + uptoBulkAll spare + 1
  | .agg parts => uptoBulkAll parts + 1
  | .iface _ d => uptoBulk d + 1
  | .map entries => uptoBulkEntries entries + 1
  | .held _ => 1
def uptoBulkAll {H : Type} : List (DataW H) → Nat
  | [] => 0
  | d :: r => uptoBulk d + uptoBulkAll r
def uptoBulkEntries {H : Type} : List (Lit × DataW H) → Nat
  | [] => 0
  | x :: r => uptoBulkEntry x + uptoBulkEntries r
def uptoBulkEntry {H : Type} : Lit × DataW H → Nat
  | (.string bytes, d) => bytes.length + uptoBulk d + 1
  | (_, d) => uptoBulk d + 1
 end
def uptoSmall : (H : Type) → List (DataW H) → Bool := fun _ ds => decide (uptoBulkAll ds ≤ 1048576)
def OpenSpec.upto (s : _root_.Go.ChangeSpec) : _root_.Go.OpenSpec := { _root_.Go.OpenSpec.ofChange s with cond := some uptoSmall }

/-- 'stopcocklaw03.EtherOwn', WHERE WHAT IT READS IS OF BULK AT MOST 1048576: true; the input reads as it did. -/
def etherOwnUptoRow : OpenClaim := { program := "ythfhljdegbcpmaa", sum := "525d2349eed6008afda33b2d00401a99b6535985f3f1848d56f241c7ea3a53f0", func := "stopcock/stopcocklaw03.EtherOwn", spec := "etherOwn", apart := false, narrowed := true }
def EtherOwnUptoSaid : Prop := etherOwnUptoRow.holds Try.pinned (OpenSpec.upto etherOwnSpec)

/-- 'stopcocklaw03.EtherTells', WHERE WHAT IT READS IS OF BULK AT MOST 1048576: true; the input reads as it did. -/
def etherTellsUptoRow : OpenClaim := { program := "ythfhljdegbcpmaa", sum := "525d2349eed6008afda33b2d00401a99b6535985f3f1848d56f241c7ea3a53f0", func := "stopcock/stopcocklaw03.EtherTells", spec := "etherTells", apart := false, narrowed := true }
def EtherTellsUptoSaid : Prop := etherTellsUptoRow.holds Try.pinned (OpenSpec.upto etherTellsSpec)

/-- 'stopcocklaw03.EtherBack', WHERE WHAT IT READS IS OF BULK AT MOST 1048576: true; the input reads as it did. -/
def etherBackUptoRow : OpenClaim := { program := "ythfhljdegbcpmaa", sum := "525d2349eed6008afda33b2d00401a99b6535985f3f1848d56f241c7ea3a53f0", func := "stopcock/stopcocklaw03.EtherBack", spec := "etherBack", apart := false, narrowed := true }
def EtherBackUptoSaid : Prop := etherBackUptoRow.holds Try.pinned (OpenSpec.upto etherBackSpec)

end Rows
end Go.Proofs.Ythfhljdegbcpmaa
