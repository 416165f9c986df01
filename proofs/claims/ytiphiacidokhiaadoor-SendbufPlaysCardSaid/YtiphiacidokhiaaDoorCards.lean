/-
  DERIVED. GIVEN WITH THE SEED: THE CARDS: each row of YtiphiacidokhiaaDoorRows.lean that lists a variable, with what it lists TIED to the program's text (the seventh form; the later family's looks); each row that meets fmt, with fmt's text TOLD by the authors' own Lean function (tested against real Go, not proved from fmt's source: count such statements apart). THE CARD IS WHAT COUNTS. Prove the row's statement (the work); the ties are given (YtiphiacidokhiaaDoorTie.lean); close each card by the builder's one call (the guide's Derived/Test/ToyasCard.lean, 'card_holds'). Laid BY PROGRAM, IN A SANDBOX (cutbox-door.mjs). By AI agents, Wed Nov 11 2026. No macro, syntax, notation, axiom, sorry.
-/
import Derived.Test.YtiphiacidokhiaaDoorRows
import GoSem.ClaimSeven
namespace Go.Proofs.YtiphiacidokhiaaDoor
namespace Rows

/-- THE TIED CARD OF 'stopcocklaw15.SendbufKeeps'. -/
def sendbufKeepsCard : Claim7 := { stood := { row := sendbufKeepsRow, standIns := [], harness := (true, "b484c9b15e8030d0978c34206fae59854b8abe1babec8c0b4556974197bee68d"), looks := false }, kinds := [], alts := [], laidByText := true, laidKinds := [.sentinel], laidTests := true, laidLooks := .later }
def SendbufKeepsCardSaid : Prop := Claim7.holds Tryd.pinned (.plain (OpenSpec.ofChange sendbufKeepsSpec)) sendbufKeepsCard

/-- THE TIED CARD OF 'stopcocklaw15.SendbufPlays'. -/
def sendbufPlaysCard : Claim7 := { stood := { row := sendbufPlaysRow, standIns := [], harness := (true, "b484c9b15e8030d0978c34206fae59854b8abe1babec8c0b4556974197bee68d"), looks := false }, kinds := [], alts := [], laidByText := true, laidKinds := [.sentinel], laidTests := true, laidLooks := .later }
def SendbufPlaysCardSaid : Prop := Claim7.holds Tryd.pinned (.plain (OpenSpec.ofChange sendbufPlaysSpec)) sendbufPlaysCard

/-- THE TIED CARD OF 'stopcocklaw15.SendbufOwn'. -/
def sendbufOwnCard : Claim7 := { stood := { row := sendbufOwnRow, standIns := [], harness := (true, "b484c9b15e8030d0978c34206fae59854b8abe1babec8c0b4556974197bee68d"), looks := false }, kinds := [], alts := [], laidByText := true, laidKinds := [.sentinel], laidTests := true, laidLooks := .later }
def SendbufOwnCardSaid : Prop := Claim7.holds Tryd.pinned (.plain (OpenSpec.ofChange sendbufOwnSpec)) sendbufOwnCard

/-- THE TIED CARD OF 'stopcocklaw15.SendbufNumbers'. -/
def sendbufNumbersCard : Claim7 := { stood := { row := sendbufNumbersRow, standIns := [], harness := (true, "b484c9b15e8030d0978c34206fae59854b8abe1babec8c0b4556974197bee68d"), looks := false }, kinds := [], alts := [], laidByText := true, laidKinds := [.sentinel], laidTests := true, laidLooks := .later }
def SendbufNumbersCardSaid : Prop := Claim7.holds Tryd.pinned (.plain (OpenSpec.ofChange sendbufNumbersSpec)) sendbufNumbersCard

/-- THE SECOND FORM's CARD OF 'stopcocklaw15.SendbufKeeps'. -/
def sendbufKeepsUptoCard : Claim7 := { stood := { row := sendbufKeepsUptoRow, standIns := [], harness := (true, "b484c9b15e8030d0978c34206fae59854b8abe1babec8c0b4556974197bee68d"), looks := false }, kinds := [], alts := [], laidByText := true, laidKinds := [.sentinel], laidTests := true, laidLooks := .later }
def SendbufKeepsUptoCardSaid : Prop := Claim7.holds Tryd.pinned (.plain (OpenSpec.upto sendbufKeepsSpec)) sendbufKeepsUptoCard

/-- THE SECOND FORM's CARD OF 'stopcocklaw15.SendbufPlays'. -/
def sendbufPlaysUptoCard : Claim7 := { stood := { row := sendbufPlaysUptoRow, standIns := [], harness := (true, "b484c9b15e8030d0978c34206fae59854b8abe1babec8c0b4556974197bee68d"), looks := false }, kinds := [], alts := [], laidByText := true, laidKinds := [.sentinel], laidTests := true, laidLooks := .later }
def SendbufPlaysUptoCardSaid : Prop := Claim7.holds Tryd.pinned (.plain (OpenSpec.upto sendbufPlaysSpec)) sendbufPlaysUptoCard

/-- THE SECOND FORM's CARD OF 'stopcocklaw15.SendbufOwn'. -/
def sendbufOwnUptoCard : Claim7 := { stood := { row := sendbufOwnUptoRow, standIns := [], harness := (true, "b484c9b15e8030d0978c34206fae59854b8abe1babec8c0b4556974197bee68d"), looks := false }, kinds := [], alts := [], laidByText := true, laidKinds := [.sentinel], laidTests := true, laidLooks := .later }
def SendbufOwnUptoCardSaid : Prop := Claim7.holds Tryd.pinned (.plain (OpenSpec.upto sendbufOwnSpec)) sendbufOwnUptoCard

/-- THE SECOND FORM's CARD OF 'stopcocklaw15.SendbufNumbers'. -/
def sendbufNumbersUptoCard : Claim7 := { stood := { row := sendbufNumbersUptoRow, standIns := [], harness := (true, "b484c9b15e8030d0978c34206fae59854b8abe1babec8c0b4556974197bee68d"), looks := false }, kinds := [], alts := [], laidByText := true, laidKinds := [.sentinel], laidTests := true, laidLooks := .later }
def SendbufNumbersUptoCardSaid : Prop := Claim7.holds Tryd.pinned (.plain (OpenSpec.upto sendbufNumbersSpec)) sendbufNumbersUptoCard
end Rows
end Go.Proofs.YtiphiacidokhiaaDoor
