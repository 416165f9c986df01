/-
  No cell of these rows narrows 'for every input' (looked for: loops, veiled, ifaces, maps, wideKeys, modest, calm, conditions, laid).
  DERIVED. THE GIVEN ROWS OF THIS SEAT. 4 by the template 'for every input the law returns true; each argument reads behind the call as it read before'; 0 by the template 'total and deterministic' (their statements: YtjhggbanonfbgaaTotals.lean).
  GIVEN WITH THE SEED: the statements are not yours to turn. If you find one false, say at which input.
  Laid BY PROGRAM, IN A SANDBOX (cutbox-rows.mjs): the forced cells as the released guide's own fill.sh prints them over the translation 8828fe9adff93fe6… (all of the seat's roots in one cut). By AI agents, Wed Nov 11 2026. No macro, syntax, notation, axiom, sorry.
-/
import Derived.Test.YtjhggbanonfbgaaChecked
import GoSem.Claim
import GoSem.ClaimJoined
import GoSem.ClaimMapViews
import Derived.JoinedTies
import Derived.KernelRfl
namespace Go.Proofs.Ytjhggbanonfbgaa
/- THE CELL 'sum', in the pinned program and in every row, IS THE sha256 OF THE DUMP (.gsa) THAT YtjhggbanonfbgaaProg.lean LOADS. Nothing in Lean hashes anything: it is a label: what it is worth is what the hold of that sum in a sandbox is worth. -/
noncomputable def Try.pinned : Pinned := { name := "ytjhggbanonfbgaa", sum := "8828fe9adff93fe68fd799271d5ec6a3928270163d24c81eaf57a10fd2700412", checked := Try.checked }
namespace Rows
def none {H : Type} : Left H := { results := [], args := [] }

/-- 'stopcocklaw20.RenoGrows': WHATEVER THE INPUT: true; the input reads as it did. -/
def renoGrowsSpec : ChangeSpec := { name := "renoGrows", fn := fun _ => fun
  | [d1, d2, d3] => { results := [.lit (.bool true)], args := [d1, d2, d3] }
  | _ => none }
def renoGrowsRow : OpenClaim := { program := "ytjhggbanonfbgaa", sum := "8828fe9adff93fe68fd799271d5ec6a3928270163d24c81eaf57a10fd2700412", func := "stopcock/stopcocklaw20.RenoGrows", spec := "renoGrows", unfollowed := true, recurses := true, apart := false }
def RenoGrowsSaid : Prop := renoGrowsRow.holds Try.pinned (OpenSpec.ofChange renoGrowsSpec)

/-- ITS FALSE NEIGHBOUR: 'it returns false'. Refute it at one input. -/
def renoGrowsWrong : ChangeSpec := { name := "renoGrows", fn := fun _ => fun
  | [d1, d2, d3] => { results := [.lit (.bool false)], args := [d1, d2, d3] }
  | _ => none }
def RenoGrowsWrongFalsely : Prop := renoGrowsRow.holds Try.pinned (OpenSpec.ofChange renoGrowsWrong)

/-- 'stopcocklaw20.RenoTells': WHATEVER THE INPUT: true; the input reads as it did. -/
def renoTellsSpec : ChangeSpec := { name := "renoTells", fn := fun _ => fun
  | [d1, d2, d3] => { results := [.lit (.bool true)], args := [d1, d2, d3] }
  | _ => none }
def renoTellsRow : OpenClaim := { program := "ytjhggbanonfbgaa", sum := "8828fe9adff93fe68fd799271d5ec6a3928270163d24c81eaf57a10fd2700412", func := "stopcock/stopcocklaw20.RenoTells", spec := "renoTells", unfollowed := true, recurses := true, apart := false }
def RenoTellsSaid : Prop := renoTellsRow.holds Try.pinned (OpenSpec.ofChange renoTellsSpec)

/-- ITS FALSE NEIGHBOUR: 'it returns false'. Refute it at one input. -/
def renoTellsWrong : ChangeSpec := { name := "renoTells", fn := fun _ => fun
  | [d1, d2, d3] => { results := [.lit (.bool false)], args := [d1, d2, d3] }
  | _ => none }
def RenoTellsWrongFalsely : Prop := renoTellsRow.holds Try.pinned (OpenSpec.ofChange renoTellsWrong)

/-- 'stopcocklaw20.RenoPlays': WHATEVER THE INPUT: true; the input reads as it did. -/
def renoPlaysSpec : ChangeSpec := { name := "renoPlays", fn := fun _ => fun
  | [d1, d2] => { results := [.lit (.bool true)], args := [d1, d2] }
  | _ => none }
def renoPlaysRow : OpenClaim := { program := "ytjhggbanonfbgaa", sum := "8828fe9adff93fe68fd799271d5ec6a3928270163d24c81eaf57a10fd2700412", func := "stopcock/stopcocklaw20.RenoPlays", spec := "renoPlays", unfollowed := true, recurses := true, apart := false }
def RenoPlaysSaid : Prop := renoPlaysRow.holds Try.pinned (OpenSpec.ofChange renoPlaysSpec)

/-- ITS FALSE NEIGHBOUR: 'it returns false'. Refute it at one input. -/
def renoPlaysWrong : ChangeSpec := { name := "renoPlays", fn := fun _ => fun
  | [d1, d2] => { results := [.lit (.bool false)], args := [d1, d2] }
  | _ => none }
def RenoPlaysWrongFalsely : Prop := renoPlaysRow.holds Try.pinned (OpenSpec.ofChange renoPlaysWrong)

/-- 'stopcocklaw20.RenoHalves': WHATEVER THE INPUT: true; the input reads as it did. -/
def renoHalvesSpec : ChangeSpec := { name := "renoHalves", fn := fun _ => fun
  | [d1, d2, d3] => { results := [.lit (.bool true)], args := [d1, d2, d3] }
  | _ => none }
def renoHalvesRow : OpenClaim := { program := "ytjhggbanonfbgaa", sum := "8828fe9adff93fe68fd799271d5ec6a3928270163d24c81eaf57a10fd2700412", func := "stopcock/stopcocklaw20.RenoHalves", spec := "renoHalves", unfollowed := true, recurses := true, apart := false }
def RenoHalvesSaid : Prop := renoHalvesRow.holds Try.pinned (OpenSpec.ofChange renoHalvesSpec)

/-- ITS FALSE NEIGHBOUR: 'it returns false'. Refute it at one input. -/
def renoHalvesWrong : ChangeSpec := { name := "renoHalves", fn := fun _ => fun
  | [d1, d2, d3] => { results := [.lit (.bool false)], args := [d1, d2, d3] }
  | _ => none }
def RenoHalvesWrongFalsely : Prop := renoHalvesRow.holds Try.pinned (OpenSpec.ofChange renoHalvesWrong)

/- THE SECOND FORM. 'bulk': how many values and letters a reading holds, each counted each time it is reached (what is shared counts as often as it is met; a slice's spare places count too). A statement '..UptoSaid' is the law's where the arguments, and the package variables that the reading takes, are together of bulk at most 1048576: NARROWER than '..Said'. Prove '..Said' where nothing that the law and all that it calls make is longer than what came in: it says more and counts as full. Else prove '..UptoSaid'. A law counts once. -/
mutual
def uptoBulk {H : Type} : DataW H → Nat
  | .lit (.string bytes) => bytes.length + 1
  | .lit _ => 1
  | .nil => 1
  | .ptr d => uptoBulk d + 1
  | .slice elems spare => uptoBulkAll elems + uptoBulkAll spare + 1
  | .agg parts => uptoBulkAll parts + 1
  | .iface _ d => uptoBulk d + 1
  | .map entries => uptoBulkEntries entries + 1
  | .held _ => 1
def uptoBulkAll {H : Type} : List (DataW H) → Nat
  | [] => 0
  | d :: r => uptoBulk d + uptoBulkAll r
def uptoBulkEntries {H : Type} : List (Lit × DataW H) → Nat
  | [] => 0
  | x :: r => uptoBulkEntry x + uptoBulkEntries r
def uptoBulkEntry {H : Type} : Lit × DataW H → Nat
  | (.string bytes, d) => bytes.length + uptoBulk d + 1
  | (_, d) => uptoBulk d + 1
 end
def uptoSmall : (H : Type) → List (DataW H) → Bool := fun _ ds => decide (uptoBulkAll ds ≤ 1048576)
def OpenSpec.upto (s : _root_.Go.ChangeSpec) : _root_.Go.OpenSpec := { _root_.Go.OpenSpec.ofChange s with cond := some uptoSmall }

/-- 'stopcocklaw20.RenoGrows', WHERE WHAT IT READS IS OF BULK AT MOST 1048576: true; the input reads as it did. -/
def renoGrowsUptoRow : OpenClaim := { program := "ytjhggbanonfbgaa", sum := "8828fe9adff93fe68fd799271d5ec6a3928270163d24c81eaf57a10fd2700412", func := "stopcock/stopcocklaw20.RenoGrows", spec := "renoGrows", unfollowed := true, recurses := true, apart := false, narrowed := true }
def RenoGrowsUptoSaid : Prop := renoGrowsUptoRow.holds Try.pinned (OpenSpec.upto renoGrowsSpec)

/-- 'stopcocklaw20.RenoTells', WHERE WHAT IT READS IS OF BULK AT MOST 1048576: true; the input reads as it did. -/
def renoTellsUptoRow : OpenClaim := { program := "ytjhggbanonfbgaa", sum := "8828fe9adff93fe68fd799271d5ec6a3928270163d24c81eaf57a10fd2700412", func := "stopcock/stopcocklaw20.RenoTells", spec := "renoTells", unfollowed := true, recurses := true, apart := false, narrowed := true }
def RenoTellsUptoSaid : Prop := renoTellsUptoRow.holds Try.pinned (OpenSpec.upto renoTellsSpec)

/-- 'stopcocklaw20.RenoPlays', WHERE WHAT IT READS IS OF BULK AT MOST 1048576: true; the input reads as it did. -/
def renoPlaysUptoRow : OpenClaim := { program := "ytjhggbanonfbgaa", sum := "8828fe9adff93fe68fd799271d5ec6a3928270163d24c81eaf57a10fd2700412", func := "stopcock/stopcocklaw20.RenoPlays", spec := "renoPlays", unfollowed := true, recurses := true, apart := false, narrowed := true }
def RenoPlaysUptoSaid : Prop := renoPlaysUptoRow.holds Try.pinned (OpenSpec.upto renoPlaysSpec)

/-- 'stopcocklaw20.RenoHalves', WHERE WHAT IT READS IS OF BULK AT MOST 1048576: true; the input reads as it did. -/
def renoHalvesUptoRow : OpenClaim := { program := "ytjhggbanonfbgaa", sum := "8828fe9adff93fe68fd799271d5ec6a3928270163d24c81eaf57a10fd2700412", func := "stopcock/stopcocklaw20.RenoHalves", spec := "renoHalves", unfollowed := true, recurses := true, apart := false, narrowed := true }
def RenoHalvesUptoSaid : Prop := renoHalvesUptoRow.holds Try.pinned (OpenSpec.upto renoHalvesSpec)

end Rows
end Go.Proofs.Ytjhggbanonfbgaa
