/-
  No cell of these rows narrows 'for every input' (looked for: loops, veiled, ifaces, maps, wideKeys, modest, calm, conditions, laid).
  DERIVED. THE GIVEN ROWS OF THIS SEAT. 4 by the template 'for every input the law returns true; each argument reads behind the call as it read before'; 0 by the template 'total and deterministic' (their statements: YtigmlklcbhlmpaaTotals.lean).
  GIVEN WITH THE SEED: the statements are not yours to turn. If you find one false, say at which input.
  Laid BY PROGRAM, IN A SANDBOX (cutbox-rows.mjs): the forced cells as the released guide's own fill.sh prints them over the translation a7ce6dfb6e69086f… (all of the seat's roots in one cut). By AI agents, Wed Nov 11 2026. No macro, syntax, notation, axiom, sorry.
-/
import Derived.Test.YtigmlklcbhlmpaaChecked
import GoSem.Claim
import GoSem.ClaimJoined
import GoSem.ClaimMapViews
import Derived.JoinedTies
import Derived.KernelRfl
namespace Go.Proofs.Ytigmlklcbhlmpaa
/- THE CELL 'sum', in the pinned program and in every row, IS THE sha256 OF THE DUMP (.gsa) THAT YtigmlklcbhlmpaaProg.lean LOADS. Nothing in Lean hashes anything: it is a label: what it is worth is what the hold of that sum in a sandbox is worth. -/
noncomputable def Try.pinned : Pinned := { name := "ytigmlklcbhlmpaa", sum := "a7ce6dfb6e69086ff6e1fa577d2fc44c73bae235f353650135d949320dc23c82", checked := Try.checked }
namespace Rows
def none {H : Type} : Left H := { results := [], args := [] }

/-- 'stopcocklaw08.RingsSteers': WHATEVER THE INPUT: true; the input reads as it did. -/
def ringsSteersSpec : ChangeSpec := { name := "ringsSteers", fn := fun _ => fun
  | [d1, d2] => { results := [.lit (.bool true)], args := [d1, d2] }
  | _ => none }
def ringsSteersRow : OpenClaim := { program := "ytigmlklcbhlmpaa", sum := "a7ce6dfb6e69086ff6e1fa577d2fc44c73bae235f353650135d949320dc23c82", func := "stopcock/stopcocklaw08.RingsSteers", spec := "ringsSteers", unfollowed := true, recurses := true, apart := false }
def RingsSteersSaid : Prop := ringsSteersRow.holds Try.pinned (OpenSpec.ofChange ringsSteersSpec)

/-- ITS FALSE NEIGHBOUR: 'it returns false'. Refute it at one input. -/
def ringsSteersWrong : ChangeSpec := { name := "ringsSteers", fn := fun _ => fun
  | [d1, d2] => { results := [.lit (.bool false)], args := [d1, d2] }
  | _ => none }
def RingsSteersWrongFalsely : Prop := ringsSteersRow.holds Try.pinned (OpenSpec.ofChange ringsSteersWrong)

/-- 'stopcocklaw08.RingsSpaced': WHATEVER THE INPUT: true; the input reads as it did. -/
def ringsSpacedSpec : ChangeSpec := { name := "ringsSpaced", fn := fun _ => fun
  | [d1, d2, d3] => { results := [.lit (.bool true)], args := [d1, d2, d3] }
  | _ => none }
def ringsSpacedRow : OpenClaim := { program := "ytigmlklcbhlmpaa", sum := "a7ce6dfb6e69086ff6e1fa577d2fc44c73bae235f353650135d949320dc23c82", func := "stopcock/stopcocklaw08.RingsSpaced", spec := "ringsSpaced", unfollowed := true, recurses := true, apart := false }
def RingsSpacedSaid : Prop := ringsSpacedRow.holds Try.pinned (OpenSpec.ofChange ringsSpacedSpec)

/-- ITS FALSE NEIGHBOUR: 'it returns false'. Refute it at one input. -/
def ringsSpacedWrong : ChangeSpec := { name := "ringsSpaced", fn := fun _ => fun
  | [d1, d2, d3] => { results := [.lit (.bool false)], args := [d1, d2, d3] }
  | _ => none }
def RingsSpacedWrongFalsely : Prop := ringsSpacedRow.holds Try.pinned (OpenSpec.ofChange ringsSpacedWrong)

/-- 'stopcocklaw08.RingsOrder': WHATEVER THE INPUT: true; the input reads as it did. -/
def ringsOrderSpec : ChangeSpec := { name := "ringsOrder", fn := fun _ => fun
  | [d1, d2] => { results := [.lit (.bool true)], args := [d1, d2] }
  | _ => none }
def ringsOrderRow : OpenClaim := { program := "ytigmlklcbhlmpaa", sum := "a7ce6dfb6e69086ff6e1fa577d2fc44c73bae235f353650135d949320dc23c82", func := "stopcock/stopcocklaw08.RingsOrder", spec := "ringsOrder", unfollowed := true, recurses := true, apart := false }
def RingsOrderSaid : Prop := ringsOrderRow.holds Try.pinned (OpenSpec.ofChange ringsOrderSpec)

/-- ITS FALSE NEIGHBOUR: 'it returns false'. Refute it at one input. -/
def ringsOrderWrong : ChangeSpec := { name := "ringsOrder", fn := fun _ => fun
  | [d1, d2] => { results := [.lit (.bool false)], args := [d1, d2] }
  | _ => none }
def RingsOrderWrongFalsely : Prop := ringsOrderRow.holds Try.pinned (OpenSpec.ofChange ringsOrderWrong)

/-- 'stopcocklaw08.RingsOwn': WHATEVER THE INPUT: true; the input reads as it did. -/
def ringsOwnSpec : ChangeSpec := { name := "ringsOwn", fn := fun _ => fun
  | [d1, d2] => { results := [.lit (.bool true)], args := [d1, d2] }
  | _ => none }
def ringsOwnRow : OpenClaim := { program := "ytigmlklcbhlmpaa", sum := "a7ce6dfb6e69086ff6e1fa577d2fc44c73bae235f353650135d949320dc23c82", func := "stopcock/stopcocklaw08.RingsOwn", spec := "ringsOwn", unfollowed := true, recurses := true, apart := false }
def RingsOwnSaid : Prop := ringsOwnRow.holds Try.pinned (OpenSpec.ofChange ringsOwnSpec)

/-- ITS FALSE NEIGHBOUR: 'it returns false'. Refute it at one input. -/
def ringsOwnWrong : ChangeSpec := { name := "ringsOwn", fn := fun _ => fun
  | [d1, d2] => { results := [.lit (.bool false)], args := [d1, d2] }
  | _ => none }
def RingsOwnWrongFalsely : Prop := ringsOwnRow.holds Try.pinned (OpenSpec.ofChange ringsOwnWrong)

/- THE SECOND FORM. 'bulk': how many values and letters a reading holds, each counted each time it is reached (what is shared counts as often as it is met; a slice's spare places count too). A statement '..UptoSaid' is the law's where the arguments, and the package variables that the reading takes, are together of bulk at most 1048576: NARROWER than '..Said'. Prove '..Said' where nothing that the law and all that it calls make is longer than what came in: it says more and counts as full. Else prove '..UptoSaid'. A law counts once. -/
mutual
def uptoBulk {H : Type} : DataW H → Nat
  | .lit (.string bytes) => bytes.length + 1
  | .lit _ => 1
  | .nil => 1
  | .ptr d => uptoBulk d + 1
  | .slice elems spare => uptoBulkAll elems + uptoBulkAll spare + 1
  | .agg parts => uptoBulkAll parts + 1
  | .iface _ d => uptoBulk d + 1
  | .map entries => uptoBulkEntries entries + 1
  | .held _ => 1
def uptoBulkAll {H : Type} : List (DataW H) → Nat
  | [] => 0
  | d :: r => uptoBulk d + uptoBulkAll r
def uptoBulkEntries {H : Type} : List (Lit × DataW H) → Nat
  | [] => 0
  | x :: r => uptoBulkEntry x + uptoBulkEntries r
def uptoBulkEntry {H : Type} : Lit × DataW H → Nat
  | (.string bytes, d) => bytes.length + uptoBulk d + 1
  | (_, d) => uptoBulk d + 1
 end
def uptoSmall : (H : Type) → List (DataW H) → Bool := fun _ ds => decide (uptoBulkAll ds ≤ 1048576)
def OpenSpec.upto (s : _root_.Go.ChangeSpec) : _root_.Go.OpenSpec := { _root_.Go.OpenSpec.ofChange s with cond := some uptoSmall }

/-- 'stopcocklaw08.RingsSteers', WHERE WHAT IT READS IS OF BULK AT MOST 1048576: true; the input reads as it did. -/
def ringsSteersUptoRow : OpenClaim := { program := "ytigmlklcbhlmpaa", sum := "a7ce6dfb6e69086ff6e1fa577d2fc44c73bae235f353650135d949320dc23c82", func := "stopcock/stopcocklaw08.RingsSteers", spec := "ringsSteers", unfollowed := true, recurses := true, apart := false, narrowed := true }
def RingsSteersUptoSaid : Prop := ringsSteersUptoRow.holds Try.pinned (OpenSpec.upto ringsSteersSpec)

/-- 'stopcocklaw08.RingsSpaced', WHERE WHAT IT READS IS OF BULK AT MOST 1048576: true; the input reads as it did. -/
def ringsSpacedUptoRow : OpenClaim := { program := "ytigmlklcbhlmpaa", sum := "a7ce6dfb6e69086ff6e1fa577d2fc44c73bae235f353650135d949320dc23c82", func := "stopcock/stopcocklaw08.RingsSpaced", spec := "ringsSpaced", unfollowed := true, recurses := true, apart := false, narrowed := true }
def RingsSpacedUptoSaid : Prop := ringsSpacedUptoRow.holds Try.pinned (OpenSpec.upto ringsSpacedSpec)

/-- 'stopcocklaw08.RingsOrder', WHERE WHAT IT READS IS OF BULK AT MOST 1048576: true; the input reads as it did. -/
def ringsOrderUptoRow : OpenClaim := { program := "ytigmlklcbhlmpaa", sum := "a7ce6dfb6e69086ff6e1fa577d2fc44c73bae235f353650135d949320dc23c82", func := "stopcock/stopcocklaw08.RingsOrder", spec := "ringsOrder", unfollowed := true, recurses := true, apart := false, narrowed := true }
def RingsOrderUptoSaid : Prop := ringsOrderUptoRow.holds Try.pinned (OpenSpec.upto ringsOrderSpec)

/-- 'stopcocklaw08.RingsOwn', WHERE WHAT IT READS IS OF BULK AT MOST 1048576: true; the input reads as it did. -/
def ringsOwnUptoRow : OpenClaim := { program := "ytigmlklcbhlmpaa", sum := "a7ce6dfb6e69086ff6e1fa577d2fc44c73bae235f353650135d949320dc23c82", func := "stopcock/stopcocklaw08.RingsOwn", spec := "ringsOwn", unfollowed := true, recurses := true, apart := false, narrowed := true }
def RingsOwnUptoSaid : Prop := ringsOwnUptoRow.holds Try.pinned (OpenSpec.upto ringsOwnSpec)

end Rows
end Go.Proofs.Ytigmlklcbhlmpaa
