/- Chapter 15: SendbufKeeps: what it reads. -/
import Derived.Test.YtiphiacidokhiaaDoorHandN
import Derived.Test.YtiphiacidokhiaaDoorHandO
namespace Go.Proofs.YtiphiacidokhiaaDoor.Hand
open Go.RowKit Go.Proofs.YtiphiacidokhiaaDoorW.PrintWords Go.Proofs.YtiphiacidokhiaaDoorW.PrintLast Go.Proofs.YtiphiacidokhiaaDoorW.PrintMore
set_option linter.unusedVariables false
theorem text_at {w : World} {A : Option Addr} {n : Nat} {l : List (List Int)} (h : Kd.C (Kd.slice 5 (Kd.int .u8)) w A n l) (i : Nat) (hi : i < n) :
    ∃ ad B c, A = some ad ∧ w.cell? (ad.add i) = some (.slice B (l.getD i []).length c) ∧ (l.getD i []).length ≤ c ∧ ReadsInt w .u8 B (l.getD i []).length (l.getD i []) := by
  obtain ⟨ad, cs, e, hl, hK, hc⟩ := ReadsRow.get_ h ([] : List Int) (i : Int) (by omega) (by omega)
  obtain ⟨B, c, rfl, hc1, hr⟩ := hK
  have h0 := hc 0 _ rfl
  have e1 : (i : Int).toNat * (Kd.slice 5 (Kd.int .u8)).sz + 0 = i := by show (i : Int).toNat * 1 + 0 = i; omega
  rw [e1] at h0
  exact ⟨ad, B, c, e, by simpa using h0, by simpa using hc1, readsInt_of.2 (Kd.reads_of_C (d := (0 : Int)) (h1 := fun _ => rfl) hr)⟩
end Go.Proofs.YtiphiacidokhiaaDoor.Hand
