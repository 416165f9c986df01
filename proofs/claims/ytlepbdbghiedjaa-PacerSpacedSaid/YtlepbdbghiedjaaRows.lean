/-
  No cell of these rows narrows 'for every input' (looked for: loops, veiled, ifaces, maps, wideKeys, modest, calm, conditions, laid).
  DERIVED. THE GIVEN ROWS OF THIS SEAT. 3 by the template 'for every input the law returns true; each argument reads behind the call as it read before'; 0 by the template 'total and deterministic' (their statements: YtlepbdbghiedjaaTotals.lean).
  GIVEN WITH THE SEED: the statements are not yours to turn. If you find one false, say at which input.
  Laid BY PROGRAM, IN A SANDBOX (cutbox-rows.mjs): the forced cells as the released guide's own fill.sh prints them over the translation c915cd9009377ff9… (all of the seat's roots in one cut). By AI agents, Wed Nov 11 2026. No macro, syntax, notation, axiom, sorry.
-/
import Derived.Test.YtlepbdbghiedjaaChecked
import GoSem.Claim
import GoSem.ClaimJoined
import GoSem.ClaimMapViews
import Derived.JoinedTies
import Derived.KernelRfl
namespace Go.Proofs.Ytlepbdbghiedjaa
/- THE CELL 'sum', in the pinned program and in every row, IS THE sha256 OF THE DUMP (.gsa) THAT YtlepbdbghiedjaaProg.lean LOADS. Nothing in Lean hashes anything: it is a label: what it is worth is what the hold of that sum in a sandbox is worth. -/
noncomputable def Try.pinned : Pinned := { name := "ytlepbdbghiedjaa", sum := "c915cd9009377ff9239d8c66898bc205c7d817e01c4633c700f1b256c87fcf00", checked := Try.checked }
namespace Rows
def none {H : Type} : Left H := { results := [], args := [] }

/-- 'stopcocklaw14.PacerTells': WHATEVER THE INPUT: true; the input reads as it did. -/
def pacerTellsSpec : ChangeSpec := { name := "pacerTells", fn := fun _ => fun
  | [d1, d2, d3, d4, d5] => { results := [.lit (.bool true)], args := [d1, d2, d3, d4, d5] }
  | _ => none }
def pacerTellsRow : OpenClaim := { program := "ytlepbdbghiedjaa", sum := "c915cd9009377ff9239d8c66898bc205c7d817e01c4633c700f1b256c87fcf00", func := "stopcock/stopcocklaw14.PacerTells", spec := "pacerTells", apart := false }
def PacerTellsSaid : Prop := pacerTellsRow.holds Try.pinned (OpenSpec.ofChange pacerTellsSpec)

/-- ITS FALSE NEIGHBOUR: 'it returns false'. Refute it at one input. -/
def pacerTellsWrong : ChangeSpec := { name := "pacerTells", fn := fun _ => fun
  | [d1, d2, d3, d4, d5] => { results := [.lit (.bool false)], args := [d1, d2, d3, d4, d5] }
  | _ => none }
def PacerTellsWrongFalsely : Prop := pacerTellsRow.holds Try.pinned (OpenSpec.ofChange pacerTellsWrong)

/-- 'stopcocklaw14.PacerSpaced': WHATEVER THE INPUT: true; the input reads as it did. -/
def pacerSpacedSpec : ChangeSpec := { name := "pacerSpaced", fn := fun _ => fun
  | [d1, d2, d3, d4] => { results := [.lit (.bool true)], args := [d1, d2, d3, d4] }
  | _ => none }
def pacerSpacedRow : OpenClaim := { program := "ytlepbdbghiedjaa", sum := "c915cd9009377ff9239d8c66898bc205c7d817e01c4633c700f1b256c87fcf00", func := "stopcock/stopcocklaw14.PacerSpaced", spec := "pacerSpaced", apart := false }
def PacerSpacedSaid : Prop := pacerSpacedRow.holds Try.pinned (OpenSpec.ofChange pacerSpacedSpec)

/-- ITS FALSE NEIGHBOUR: 'it returns false'. Refute it at one input. -/
def pacerSpacedWrong : ChangeSpec := { name := "pacerSpaced", fn := fun _ => fun
  | [d1, d2, d3, d4] => { results := [.lit (.bool false)], args := [d1, d2, d3, d4] }
  | _ => none }
def PacerSpacedWrongFalsely : Prop := pacerSpacedRow.holds Try.pinned (OpenSpec.ofChange pacerSpacedWrong)

/-- 'stopcocklaw14.PacerReleases': WHATEVER THE INPUT: true; the input reads as it did. -/
def pacerReleasesSpec : ChangeSpec := { name := "pacerReleases", fn := fun _ => fun
  | [d1, d2] => { results := [.lit (.bool true)], args := [d1, d2] }
  | _ => none }
def pacerReleasesRow : OpenClaim := { program := "ytlepbdbghiedjaa", sum := "c915cd9009377ff9239d8c66898bc205c7d817e01c4633c700f1b256c87fcf00", func := "stopcock/stopcocklaw14.PacerReleases", spec := "pacerReleases", unfollowed := true, recurses := true, apart := false }
def PacerReleasesSaid : Prop := pacerReleasesRow.holds Try.pinned (OpenSpec.ofChange pacerReleasesSpec)

/-- ITS FALSE NEIGHBOUR: 'it returns false'. Refute it at one input. -/
def pacerReleasesWrong : ChangeSpec := { name := "pacerReleases", fn := fun _ => fun
  | [d1, d2] => { results := [.lit (.bool false)], args := [d1, d2] }
  | _ => none }
def PacerReleasesWrongFalsely : Prop := pacerReleasesRow.holds Try.pinned (OpenSpec.ofChange pacerReleasesWrong)

/- THE SECOND FORM. 'bulk': how many values and letters a reading holds, each counted each time it is reached (what is shared counts as often as it is met; a slice's spare places count too). A statement '..UptoSaid' is the law's where the arguments, and the package variables that the reading takes, are together of bulk at most 1048576: NARROWER than '..Said'. Prove '..Said' where nothing that the law and all that it calls make is longer than what came in: it says more and counts as full. Else prove '..UptoSaid'. A law counts once. -/
mutual
def uptoBulk {H : Type} : DataW H → Nat
  | .lit (.string bytes) => bytes.length + 1
  | .lit _ => 1
  | .nil => 1
  | .ptr d => uptoBulk d + 1
  | .slice elems spare => uptoBulkAll elems + uptoBulkAll spare + 1
  | .agg parts => uptoBulkAll parts + 1
  | .iface _ d => uptoBulk d + 1
  | .map entries => uptoBulkEntries entries + 1
  | .held _ => 1
def uptoBulkAll {H : Type} : List (DataW H) → Nat
  | [] => 0
  | d :: r => uptoBulk d + uptoBulkAll r
def uptoBulkEntries {H : Type} : List (Lit × DataW H) → Nat
  | [] => 0
  | x :: r => uptoBulkEntry x + uptoBulkEntries r
def uptoBulkEntry {H : Type} : Lit × DataW H → Nat
  | (.string bytes, d) => bytes.length + uptoBulk d + 1
  | (_, d) => uptoBulk d + 1
 end
def uptoSmall : (H : Type) → List (DataW H) → Bool := fun _ ds => decide (uptoBulkAll ds ≤ 1048576)
def OpenSpec.upto (s : _root_.Go.ChangeSpec) : _root_.Go.OpenSpec := { _root_.Go.OpenSpec.ofChange s with cond := some uptoSmall }

/-- 'stopcocklaw14.PacerTells', WHERE WHAT IT READS IS OF BULK AT MOST 1048576: true; the input reads as it did. -/
def pacerTellsUptoRow : OpenClaim := { program := "ytlepbdbghiedjaa", sum := "c915cd9009377ff9239d8c66898bc205c7d817e01c4633c700f1b256c87fcf00", func := "stopcock/stopcocklaw14.PacerTells", spec := "pacerTells", apart := false, narrowed := true }
def PacerTellsUptoSaid : Prop := pacerTellsUptoRow.holds Try.pinned (OpenSpec.upto pacerTellsSpec)

/-- 'stopcocklaw14.PacerSpaced', WHERE WHAT IT READS IS OF BULK AT MOST 1048576: true; the input reads as it did. -/
def pacerSpacedUptoRow : OpenClaim := { program := "ytlepbdbghiedjaa", sum := "c915cd9009377ff9239d8c66898bc205c7d817e01c4633c700f1b256c87fcf00", func := "stopcock/stopcocklaw14.PacerSpaced", spec := "pacerSpaced", apart := false, narrowed := true }
def PacerSpacedUptoSaid : Prop := pacerSpacedUptoRow.holds Try.pinned (OpenSpec.upto pacerSpacedSpec)

/-- 'stopcocklaw14.PacerReleases', WHERE WHAT IT READS IS OF BULK AT MOST 1048576: true; the input reads as it did. -/
def pacerReleasesUptoRow : OpenClaim := { program := "ytlepbdbghiedjaa", sum := "c915cd9009377ff9239d8c66898bc205c7d817e01c4633c700f1b256c87fcf00", func := "stopcock/stopcocklaw14.PacerReleases", spec := "pacerReleases", unfollowed := true, recurses := true, apart := false, narrowed := true }
def PacerReleasesUptoSaid : Prop := pacerReleasesUptoRow.holds Try.pinned (OpenSpec.upto pacerReleasesSpec)

end Rows
end Go.Proofs.Ytlepbdbghiedjaa
