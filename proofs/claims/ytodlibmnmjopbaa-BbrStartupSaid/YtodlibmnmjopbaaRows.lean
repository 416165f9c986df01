/-
  No cell of these rows narrows 'for every input' (looked for: loops, veiled, ifaces, maps, wideKeys, modest, calm, conditions, laid).
  DERIVED. THE GIVEN ROWS OF THIS SEAT. 6 by the template 'for every input the law returns true; each argument reads behind the call as it read before'; 0 by the template 'total and deterministic' (their statements: YtodlibmnmjopbaaTotals.lean).
  GIVEN WITH THE SEED: the statements are not yours to turn. If you find one false, say at which input.
  Laid BY PROGRAM, IN A SANDBOX (cutbox-rows.mjs): the forced cells as the released guide's own fill.sh prints them over the translation 6d81154678d96215… (all of the seat's roots in one cut). By AI agents, Wed Nov 11 2026. No macro, syntax, notation, axiom, sorry.
-/
import Derived.Test.YtodlibmnmjopbaaChecked
import GoSem.Claim
import GoSem.ClaimJoined
import GoSem.ClaimMapViews
import Derived.JoinedTies
import Derived.KernelRfl
namespace Go.Proofs.Ytodlibmnmjopbaa
/- THE CELL 'sum', in the pinned program and in every row, IS THE sha256 OF THE DUMP (.gsa) THAT YtodlibmnmjopbaaProg.lean LOADS. Nothing in Lean hashes anything: it is a label: what it is worth is what the hold of that sum in a sandbox is worth. -/
noncomputable def Try.pinned : Pinned := { name := "ytodlibmnmjopbaa", sum := "6d81154678d9621583c3f06aae4f041dd33d8f9deb3c8d680937085a3185561d", checked := Try.checked }
namespace Rows
def none {H : Type} : Left H := { results := [], args := [] }

/-- 'stopcocklaw23.BbrFilters': WHATEVER THE INPUT: true; the input reads as it did. -/
def bbrFiltersSpec : ChangeSpec := { name := "bbrFilters", fn := fun _ => fun
  | [d1, d2, d3] => { results := [.lit (.bool true)], args := [d1, d2, d3] }
  | _ => none }
def bbrFiltersRow : OpenClaim := { program := "ytodlibmnmjopbaa", sum := "6d81154678d9621583c3f06aae4f041dd33d8f9deb3c8d680937085a3185561d", func := "stopcock/stopcocklaw23.BbrFilters", spec := "bbrFilters", unfollowed := true, recurses := true, apart := false }
def BbrFiltersSaid : Prop := bbrFiltersRow.holds Try.pinned (OpenSpec.ofChange bbrFiltersSpec)

/-- ITS FALSE NEIGHBOUR: 'it returns false'. Refute it at one input. -/
def bbrFiltersWrong : ChangeSpec := { name := "bbrFilters", fn := fun _ => fun
  | [d1, d2, d3] => { results := [.lit (.bool false)], args := [d1, d2, d3] }
  | _ => none }
def BbrFiltersWrongFalsely : Prop := bbrFiltersRow.holds Try.pinned (OpenSpec.ofChange bbrFiltersWrong)

/-- 'stopcocklaw23.BbrGreatest': WHATEVER THE INPUT: true; the input reads as it did. -/
def bbrGreatestSpec : ChangeSpec := { name := "bbrGreatest", fn := fun _ => fun
  | [d1, d2] => { results := [.lit (.bool true)], args := [d1, d2] }
  | _ => none }
def bbrGreatestRow : OpenClaim := { program := "ytodlibmnmjopbaa", sum := "6d81154678d9621583c3f06aae4f041dd33d8f9deb3c8d680937085a3185561d", func := "stopcock/stopcocklaw23.BbrGreatest", spec := "bbrGreatest", unfollowed := true, recurses := true, apart := false }
def BbrGreatestSaid : Prop := bbrGreatestRow.holds Try.pinned (OpenSpec.ofChange bbrGreatestSpec)

/-- ITS FALSE NEIGHBOUR: 'it returns false'. Refute it at one input. -/
def bbrGreatestWrong : ChangeSpec := { name := "bbrGreatest", fn := fun _ => fun
  | [d1, d2] => { results := [.lit (.bool false)], args := [d1, d2] }
  | _ => none }
def BbrGreatestWrongFalsely : Prop := bbrGreatestRow.holds Try.pinned (OpenSpec.ofChange bbrGreatestWrong)

/-- 'stopcocklaw23.BbrPlays': WHATEVER THE INPUT: true; the input reads as it did. -/
def bbrPlaysSpec : ChangeSpec := { name := "bbrPlays", fn := fun _ => fun
  | [d1, d2] => { results := [.lit (.bool true)], args := [d1, d2] }
  | _ => none }
def bbrPlaysRow : OpenClaim := { program := "ytodlibmnmjopbaa", sum := "6d81154678d9621583c3f06aae4f041dd33d8f9deb3c8d680937085a3185561d", func := "stopcock/stopcocklaw23.BbrPlays", spec := "bbrPlays", unfollowed := true, recurses := true, apart := false }
def BbrPlaysSaid : Prop := bbrPlaysRow.holds Try.pinned (OpenSpec.ofChange bbrPlaysSpec)

/-- ITS FALSE NEIGHBOUR: 'it returns false'. Refute it at one input. -/
def bbrPlaysWrong : ChangeSpec := { name := "bbrPlays", fn := fun _ => fun
  | [d1, d2] => { results := [.lit (.bool false)], args := [d1, d2] }
  | _ => none }
def BbrPlaysWrongFalsely : Prop := bbrPlaysRow.holds Try.pinned (OpenSpec.ofChange bbrPlaysWrong)

/-- 'stopcocklaw23.BbrStartup': WHATEVER THE INPUT: true; the input reads as it did. -/
def bbrStartupSpec : ChangeSpec := { name := "bbrStartup", fn := fun _ => fun
  | [d1, d2, d3] => { results := [.lit (.bool true)], args := [d1, d2, d3] }
  | _ => none }
def bbrStartupRow : OpenClaim := { program := "ytodlibmnmjopbaa", sum := "6d81154678d9621583c3f06aae4f041dd33d8f9deb3c8d680937085a3185561d", func := "stopcock/stopcocklaw23.BbrStartup", spec := "bbrStartup", unfollowed := true, recurses := true, apart := false }
def BbrStartupSaid : Prop := bbrStartupRow.holds Try.pinned (OpenSpec.ofChange bbrStartupSpec)

/-- ITS FALSE NEIGHBOUR: 'it returns false'. Refute it at one input. -/
def bbrStartupWrong : ChangeSpec := { name := "bbrStartup", fn := fun _ => fun
  | [d1, d2, d3] => { results := [.lit (.bool false)], args := [d1, d2, d3] }
  | _ => none }
def BbrStartupWrongFalsely : Prop := bbrStartupRow.holds Try.pinned (OpenSpec.ofChange bbrStartupWrong)

/-- 'stopcocklaw23.BbrLeast': WHATEVER THE INPUT: true; the input reads as it did. -/
def bbrLeastSpec : ChangeSpec := { name := "bbrLeast", fn := fun _ => fun
  | [d] => { results := [.lit (.bool true)], args := [d] }
  | _ => none }
def bbrLeastRow : OpenClaim := { program := "ytodlibmnmjopbaa", sum := "6d81154678d9621583c3f06aae4f041dd33d8f9deb3c8d680937085a3185561d", func := "stopcock/stopcocklaw23.BbrLeast", spec := "bbrLeast", unfollowed := true, recurses := true, apart := false }
def BbrLeastSaid : Prop := bbrLeastRow.holds Try.pinned (OpenSpec.ofChange bbrLeastSpec)

/-- ITS FALSE NEIGHBOUR: 'it returns false'. Refute it at one input. -/
def bbrLeastWrong : ChangeSpec := { name := "bbrLeast", fn := fun _ => fun
  | [d] => { results := [.lit (.bool false)], args := [d] }
  | _ => none }
def BbrLeastWrongFalsely : Prop := bbrLeastRow.holds Try.pinned (OpenSpec.ofChange bbrLeastWrong)

/-- 'stopcocklaw23.BbrCycle': WHATEVER THE INPUT: true; the input reads as it did. -/
def bbrCycleSpec : ChangeSpec := { name := "bbrCycle", fn := fun _ => fun
  | [d1, d2] => { results := [.lit (.bool true)], args := [d1, d2] }
  | _ => none }
def bbrCycleRow : OpenClaim := { program := "ytodlibmnmjopbaa", sum := "6d81154678d9621583c3f06aae4f041dd33d8f9deb3c8d680937085a3185561d", func := "stopcock/stopcocklaw23.BbrCycle", spec := "bbrCycle", unfollowed := true, recurses := true, apart := false }
def BbrCycleSaid : Prop := bbrCycleRow.holds Try.pinned (OpenSpec.ofChange bbrCycleSpec)

/-- ITS FALSE NEIGHBOUR: 'it returns false'. Refute it at one input. -/
def bbrCycleWrong : ChangeSpec := { name := "bbrCycle", fn := fun _ => fun
  | [d1, d2] => { results := [.lit (.bool false)], args := [d1, d2] }
  | _ => none }
def BbrCycleWrongFalsely : Prop := bbrCycleRow.holds Try.pinned (OpenSpec.ofChange bbrCycleWrong)

/- THE SECOND FORM. 'bulk': how many values and letters a reading holds, each counted each time it is reached (what is shared counts as often as it is met; a slice's spare places count too). A statement '..UptoSaid' is the law's where the arguments, and the package variables that the reading takes, are together of bulk at most 1048576: NARROWER than '..Said'. Prove '..Said' where nothing that the law and all that it calls make is longer than what came in: it says more and counts as full. Else prove '..UptoSaid'. A law counts once. -/
mutual
def uptoBulk {H : Type} : DataW H → Nat
  | .lit (.string bytes) => bytes.length + 1
  | .lit _ => 1
  | .nil => 1
  | .ptr d => uptoBulk d + 1
  | .slice elems spare => uptoBulkAll elems + uptoBulkAll spare + 1
  | .agg parts => uptoBulkAll parts + 1
  | .iface _ d => uptoBulk d + 1
  | .map entries => uptoBulkEntries entries + 1
  | .held _ => 1
def uptoBulkAll {H : Type} : List (DataW H) → Nat
  | [] => 0
  | d :: r => uptoBulk d + uptoBulkAll r
def uptoBulkEntries {H : Type} : List (Lit × DataW H) → Nat
  | [] => 0
  | x :: r => uptoBulkEntry x + uptoBulkEntries r
def uptoBulkEntry {H : Type} : Lit × DataW H → Nat
  | (.string bytes, d) => bytes.length + uptoBulk d + 1
  | (_, d) => uptoBulk d + 1
 end
def uptoSmall : (H : Type) → List (DataW H) → Bool := fun _ ds => decide (uptoBulkAll ds ≤ 1048576)
def OpenSpec.upto (s : _root_.Go.ChangeSpec) : _root_.Go.OpenSpec := { _root_.Go.OpenSpec.ofChange s with cond := some uptoSmall }

/-- 'stopcocklaw23.BbrFilters', WHERE WHAT IT READS IS OF BULK AT MOST 1048576: true; the input reads as it did. -/
def bbrFiltersUptoRow : OpenClaim := { program := "ytodlibmnmjopbaa", sum := "6d81154678d9621583c3f06aae4f041dd33d8f9deb3c8d680937085a3185561d", func := "stopcock/stopcocklaw23.BbrFilters", spec := "bbrFilters", unfollowed := true, recurses := true, apart := false, narrowed := true }
def BbrFiltersUptoSaid : Prop := bbrFiltersUptoRow.holds Try.pinned (OpenSpec.upto bbrFiltersSpec)

/-- 'stopcocklaw23.BbrGreatest', WHERE WHAT IT READS IS OF BULK AT MOST 1048576: true; the input reads as it did. -/
def bbrGreatestUptoRow : OpenClaim := { program := "ytodlibmnmjopbaa", sum := "6d81154678d9621583c3f06aae4f041dd33d8f9deb3c8d680937085a3185561d", func := "stopcock/stopcocklaw23.BbrGreatest", spec := "bbrGreatest", unfollowed := true, recurses := true, apart := false, narrowed := true }
def BbrGreatestUptoSaid : Prop := bbrGreatestUptoRow.holds Try.pinned (OpenSpec.upto bbrGreatestSpec)

/-- 'stopcocklaw23.BbrPlays', WHERE WHAT IT READS IS OF BULK AT MOST 1048576: true; the input reads as it did. -/
def bbrPlaysUptoRow : OpenClaim := { program := "ytodlibmnmjopbaa", sum := "6d81154678d9621583c3f06aae4f041dd33d8f9deb3c8d680937085a3185561d", func := "stopcock/stopcocklaw23.BbrPlays", spec := "bbrPlays", unfollowed := true, recurses := true, apart := false, narrowed := true }
def BbrPlaysUptoSaid : Prop := bbrPlaysUptoRow.holds Try.pinned (OpenSpec.upto bbrPlaysSpec)

/-- 'stopcocklaw23.BbrStartup', WHERE WHAT IT READS IS OF BULK AT MOST 1048576: true; the input reads as it did. -/
def bbrStartupUptoRow : OpenClaim := { program := "ytodlibmnmjopbaa", sum := "6d81154678d9621583c3f06aae4f041dd33d8f9deb3c8d680937085a3185561d", func := "stopcock/stopcocklaw23.BbrStartup", spec := "bbrStartup", unfollowed := true, recurses := true, apart := false, narrowed := true }
def BbrStartupUptoSaid : Prop := bbrStartupUptoRow.holds Try.pinned (OpenSpec.upto bbrStartupSpec)

/-- 'stopcocklaw23.BbrLeast', WHERE WHAT IT READS IS OF BULK AT MOST 1048576: true; the input reads as it did. -/
def bbrLeastUptoRow : OpenClaim := { program := "ytodlibmnmjopbaa", sum := "6d81154678d9621583c3f06aae4f041dd33d8f9deb3c8d680937085a3185561d", func := "stopcock/stopcocklaw23.BbrLeast", spec := "bbrLeast", unfollowed := true, recurses := true, apart := false, narrowed := true }
def BbrLeastUptoSaid : Prop := bbrLeastUptoRow.holds Try.pinned (OpenSpec.upto bbrLeastSpec)

/-- 'stopcocklaw23.BbrCycle', WHERE WHAT IT READS IS OF BULK AT MOST 1048576: true; the input reads as it did. -/
def bbrCycleUptoRow : OpenClaim := { program := "ytodlibmnmjopbaa", sum := "6d81154678d9621583c3f06aae4f041dd33d8f9deb3c8d680937085a3185561d", func := "stopcock/stopcocklaw23.BbrCycle", spec := "bbrCycle", unfollowed := true, recurses := true, apart := false, narrowed := true }
def BbrCycleUptoSaid : Prop := bbrCycleUptoRow.holds Try.pinned (OpenSpec.upto bbrCycleSpec)

end Rows
end Go.Proofs.Ytodlibmnmjopbaa
