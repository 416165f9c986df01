/-
  NARROWER THAN 'FOR EVERY INPUT', by the rows' own cells (each row's printed sentence says how): SendbufKeeps: laid · SendbufPlays: laid · SendbufOwn: laid · SendbufNumbers: laid.
  DERIVED. THE GIVEN ROWS OF THIS SEAT. 4 by the template 'for every input the law returns true; each argument reads behind the call as it read before'; 0 by the template 'total and deterministic' (their statements: YtiphiacidokhiaaDoorTotals.lean).
  GIVEN WITH THE SEED: the statements are not yours to turn. If you find one false, say at which input.
  Laid BY PROGRAM, IN A SANDBOX (cutbox-rows.mjs): the forced cells as the released guide's own fill.sh prints them over the translation 8eb72196ef0134f6… (all of the seat's roots in one cut). By AI agents, Wed Nov 11 2026. No macro, syntax, notation, axiom, sorry.
-/
import Derived.Test.YtiphiacidokhiaaDoorChecked
import GoSem.Claim
import GoSem.ClaimJoined
import GoSem.ClaimMapViews
import Derived.JoinedTies
import Derived.KernelRfl
namespace Go.Proofs.YtiphiacidokhiaaDoor
/- THE CELL 'sum', in the pinned program and in every row, IS THE sha256 OF THE DUMP (.gsa) THAT YtiphiacidokhiaaDoorProg.lean LOADS. Nothing in Lean hashes anything: it is a label: what it is worth is what the hold of that sum in a sandbox is worth. -/
noncomputable def Tryd.pinned : Pinned := { name := "ytiphiacidokhiaadoor", sum := "8eb72196ef0134f601a24b54b0e4db7702a0ab7e8524e132e49b22f5c42741f2", checked := Tryd.checked }
namespace Rows
def none {H : Type} : Left H := { results := [], args := [] }

/- WHAT THE LISTED PACKAGE-LEVEL VARIABLES READ AS WHEN THE CALL BEGINS. Each datum BY PROGRAM (the guide's laid-datum.mjs) off the statement by which the dump's own 'gosem.cut.vars' lays the variable. In a bare row this is a premise. The card (YtiphiacidokhiaaDoorCards.lean) ties it to the program's text. -/
def laid_bytes_ErrTooLarge {H : Type} : DataW H := .iface "*errors.errorString" (.ptr (.agg [.lit (.string [98, 121, 116, 101, 115, 46, 66, 117, 102, 102, 101, 114, 58, 32, 116, 111, 111, 32, 108, 97, 114, 103, 101])]))

/-- 'stopcocklaw15.SendbufKeeps': WHATEVER THE INPUT: true; the input reads as it did. -/
def sendbufKeepsSpec : ChangeSpec := { name := "sendbufKeeps", fn := fun _ => fun
  | [d1, d2, d3, d4] => { results := [.lit (.bool true)], args := [d1, d2, d3, d4] }
  | _ => none }
def sendbufKeepsRow : OpenClaim := { program := "ytiphiacidokhiaadoor", sum := "8eb72196ef0134f601a24b54b0e4db7702a0ab7e8524e132e49b22f5c42741f2", func := "stopcock/stopcocklaw15.SendbufKeeps", spec := "sendbufKeeps", named := ["bytes.ErrTooLarge"], apart := false, laid := [("bytes.ErrTooLarge", laid_bytes_ErrTooLarge)] }
def SendbufKeepsSaid : Prop := sendbufKeepsRow.holds Tryd.pinned (OpenSpec.ofChange sendbufKeepsSpec)

/-- ITS FALSE NEIGHBOUR: 'it returns false'. Refute it at one input. -/
def sendbufKeepsWrong : ChangeSpec := { name := "sendbufKeeps", fn := fun _ => fun
  | [d1, d2, d3, d4] => { results := [.lit (.bool false)], args := [d1, d2, d3, d4] }
  | _ => none }
def SendbufKeepsWrongFalsely : Prop := sendbufKeepsRow.holds Tryd.pinned (OpenSpec.ofChange sendbufKeepsWrong)

/-- 'stopcocklaw15.SendbufPlays': WHATEVER THE INPUT: true; the input reads as it did. -/
def sendbufPlaysSpec : ChangeSpec := { name := "sendbufPlays", fn := fun _ => fun
  | [d1, d2, d3] => { results := [.lit (.bool true)], args := [d1, d2, d3] }
  | _ => none }
def sendbufPlaysRow : OpenClaim := { program := "ytiphiacidokhiaadoor", sum := "8eb72196ef0134f601a24b54b0e4db7702a0ab7e8524e132e49b22f5c42741f2", func := "stopcock/stopcocklaw15.SendbufPlays", spec := "sendbufPlays", named := ["bytes.ErrTooLarge"], apart := false, laid := [("bytes.ErrTooLarge", laid_bytes_ErrTooLarge)] }
def SendbufPlaysSaid : Prop := sendbufPlaysRow.holds Tryd.pinned (OpenSpec.ofChange sendbufPlaysSpec)

/-- ITS FALSE NEIGHBOUR: 'it returns false'. Refute it at one input. -/
def sendbufPlaysWrong : ChangeSpec := { name := "sendbufPlays", fn := fun _ => fun
  | [d1, d2, d3] => { results := [.lit (.bool false)], args := [d1, d2, d3] }
  | _ => none }
def SendbufPlaysWrongFalsely : Prop := sendbufPlaysRow.holds Tryd.pinned (OpenSpec.ofChange sendbufPlaysWrong)

/-- 'stopcocklaw15.SendbufOwn': WHATEVER THE INPUT: true; the input reads as it did. -/
def sendbufOwnSpec : ChangeSpec := { name := "sendbufOwn", fn := fun _ => fun
  | [d1, d2] => { results := [.lit (.bool true)], args := [d1, d2] }
  | _ => none }
def sendbufOwnRow : OpenClaim := { program := "ytiphiacidokhiaadoor", sum := "8eb72196ef0134f601a24b54b0e4db7702a0ab7e8524e132e49b22f5c42741f2", func := "stopcock/stopcocklaw15.SendbufOwn", spec := "sendbufOwn", named := ["bytes.ErrTooLarge"], apart := false, laid := [("bytes.ErrTooLarge", laid_bytes_ErrTooLarge)] }
def SendbufOwnSaid : Prop := sendbufOwnRow.holds Tryd.pinned (OpenSpec.ofChange sendbufOwnSpec)

/-- ITS FALSE NEIGHBOUR: 'it returns false'. Refute it at one input. -/
def sendbufOwnWrong : ChangeSpec := { name := "sendbufOwn", fn := fun _ => fun
  | [d1, d2] => { results := [.lit (.bool false)], args := [d1, d2] }
  | _ => none }
def SendbufOwnWrongFalsely : Prop := sendbufOwnRow.holds Tryd.pinned (OpenSpec.ofChange sendbufOwnWrong)

/-- 'stopcocklaw15.SendbufNumbers': WHATEVER THE INPUT: true; the input reads as it did. -/
def sendbufNumbersSpec : ChangeSpec := { name := "sendbufNumbers", fn := fun _ => fun
  | [d1, d2, d3] => { results := [.lit (.bool true)], args := [d1, d2, d3] }
  | _ => none }
def sendbufNumbersRow : OpenClaim := { program := "ytiphiacidokhiaadoor", sum := "8eb72196ef0134f601a24b54b0e4db7702a0ab7e8524e132e49b22f5c42741f2", func := "stopcock/stopcocklaw15.SendbufNumbers", spec := "sendbufNumbers", named := ["bytes.ErrTooLarge"], apart := false, laid := [("bytes.ErrTooLarge", laid_bytes_ErrTooLarge)] }
def SendbufNumbersSaid : Prop := sendbufNumbersRow.holds Tryd.pinned (OpenSpec.ofChange sendbufNumbersSpec)

/-- ITS FALSE NEIGHBOUR: 'it returns false'. Refute it at one input. -/
def sendbufNumbersWrong : ChangeSpec := { name := "sendbufNumbers", fn := fun _ => fun
  | [d1, d2, d3] => { results := [.lit (.bool false)], args := [d1, d2, d3] }
  | _ => none }
def SendbufNumbersWrongFalsely : Prop := sendbufNumbersRow.holds Tryd.pinned (OpenSpec.ofChange sendbufNumbersWrong)

/- THE SECOND FORM. 'bulk': how many values and letters a reading holds, each counted each time it is reached (what is shared counts as often as it is met; a slice's spare places count too). A statement '..UptoSaid' is the law's where the arguments, and the package variables that the reading takes, are together of bulk at most 1048576: NARROWER than '..Said'. Prove '..Said' where nothing that the law and all that it calls make is longer than what came in: it says more and counts as full. Else prove '..UptoSaid'. A law counts once. -/
mutual
def uptoBulk {H : Type} : DataW H → Nat
  | .lit (.string bytes) => bytes.length + 1
  | .lit _ => 1
  | .nil => 1
  | .ptr d => uptoBulk d + 1
  | .slice elems spare => uptoBulkAll elems + uptoBulkAll spare + 1
  | .agg parts => uptoBulkAll parts + 1
  | .iface _ d => uptoBulk d + 1
  | .map entries => uptoBulkEntries entries + 1
  | .held _ => 1
def uptoBulkAll {H : Type} : List (DataW H) → Nat
  | [] => 0
  | d :: r => uptoBulk d + uptoBulkAll r
def uptoBulkEntries {H : Type} : List (Lit × DataW H) → Nat
  | [] => 0
  | x :: r => uptoBulkEntry x + uptoBulkEntries r
def uptoBulkEntry {H : Type} : Lit × DataW H → Nat
  | (.string bytes, d) => bytes.length + uptoBulk d + 1
  | (_, d) => uptoBulk d + 1
 end
def uptoSmall : (H : Type) → List (DataW H) → Bool := fun _ ds => decide (uptoBulkAll ds ≤ 1048576)
def OpenSpec.upto (s : _root_.Go.ChangeSpec) : _root_.Go.OpenSpec := { _root_.Go.OpenSpec.ofChange s with cond := some uptoSmall }

/-- 'stopcocklaw15.SendbufKeeps', WHERE WHAT IT READS IS OF BULK AT MOST 1048576: true; the input reads as it did. -/
def sendbufKeepsUptoRow : OpenClaim := { program := "ytiphiacidokhiaadoor", sum := "8eb72196ef0134f601a24b54b0e4db7702a0ab7e8524e132e49b22f5c42741f2", func := "stopcock/stopcocklaw15.SendbufKeeps", spec := "sendbufKeeps", named := ["bytes.ErrTooLarge"], apart := false, laid := [("bytes.ErrTooLarge", laid_bytes_ErrTooLarge)], narrowed := true }
def SendbufKeepsUptoSaid : Prop := sendbufKeepsUptoRow.holds Tryd.pinned (OpenSpec.upto sendbufKeepsSpec)

/-- 'stopcocklaw15.SendbufPlays', WHERE WHAT IT READS IS OF BULK AT MOST 1048576: true; the input reads as it did. -/
def sendbufPlaysUptoRow : OpenClaim := { program := "ytiphiacidokhiaadoor", sum := "8eb72196ef0134f601a24b54b0e4db7702a0ab7e8524e132e49b22f5c42741f2", func := "stopcock/stopcocklaw15.SendbufPlays", spec := "sendbufPlays", named := ["bytes.ErrTooLarge"], apart := false, laid := [("bytes.ErrTooLarge", laid_bytes_ErrTooLarge)], narrowed := true }
def SendbufPlaysUptoSaid : Prop := sendbufPlaysUptoRow.holds Tryd.pinned (OpenSpec.upto sendbufPlaysSpec)

/-- 'stopcocklaw15.SendbufOwn', WHERE WHAT IT READS IS OF BULK AT MOST 1048576: true; the input reads as it did. -/
def sendbufOwnUptoRow : OpenClaim := { program := "ytiphiacidokhiaadoor", sum := "8eb72196ef0134f601a24b54b0e4db7702a0ab7e8524e132e49b22f5c42741f2", func := "stopcock/stopcocklaw15.SendbufOwn", spec := "sendbufOwn", named := ["bytes.ErrTooLarge"], apart := false, laid := [("bytes.ErrTooLarge", laid_bytes_ErrTooLarge)], narrowed := true }
def SendbufOwnUptoSaid : Prop := sendbufOwnUptoRow.holds Tryd.pinned (OpenSpec.upto sendbufOwnSpec)

/-- 'stopcocklaw15.SendbufNumbers', WHERE WHAT IT READS IS OF BULK AT MOST 1048576: true; the input reads as it did. -/
def sendbufNumbersUptoRow : OpenClaim := { program := "ytiphiacidokhiaadoor", sum := "8eb72196ef0134f601a24b54b0e4db7702a0ab7e8524e132e49b22f5c42741f2", func := "stopcock/stopcocklaw15.SendbufNumbers", spec := "sendbufNumbers", named := ["bytes.ErrTooLarge"], apart := false, laid := [("bytes.ErrTooLarge", laid_bytes_ErrTooLarge)], narrowed := true }
def SendbufNumbersUptoSaid : Prop := sendbufNumbersUptoRow.holds Tryd.pinned (OpenSpec.upto sendbufNumbersSpec)

end Rows
end Go.Proofs.YtiphiacidokhiaaDoor
