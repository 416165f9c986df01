/- Chapter 15: SameBytes of two equal rows. -/
import Derived.Test.YtiphiacidokhiaaDoorHandT
import Derived.Test.YtiphiacidokhiaaDoorUtil
import Derived.Test.YtiphiacidokhiaaDoorPZx1
namespace Go.Proofs.YtiphiacidokhiaaDoor.Hand
open Go.RowKit Go.Proofs.YtiphiacidokhiaaDoor.PZ Go.Proofs.YtiphiacidokhiaaDoor.Util Go.Proofs.YtiphiacidokhiaaDoorW.PrintWords Go.Proofs.YtiphiacidokhiaaDoorW.PrintLast Go.Proofs.YtiphiacidokhiaaDoorW.PrintMore
set_option linter.unusedVariables false
theorem same_ev (l : List Int) (hs : l.length ≤ 140737488351232) : Ev (fun k => stopcockplain_SameBytes.f k l l) true := by
  have h : ∀ (d i : Nat), i + d = l.length → Ev (fun k => stopcockplain_SameBytes.l0 k l l (i : Int)) true := by
    intro d
    induction d with
    | zero =>
      intro i h
      refine evEnd 1 (fun k hk => ?_)
      obtain ⟨m, rfl⟩ : ∃ m, k = m + 1 := ⟨k - 1, by omega⟩
      simp only [stopcockplain_SameBytes.l0]
      rw [if_neg (by omega)]
    | succ d ih =>
      intro i h
      refine evStep 0 (fun k _ => ?_) (ih (i + 1) (by omega))
      simp only [stopcockplain_SameBytes.l0]
      rw [if_pos (by omega), if_pos (by omega), if_pos (by omega), if_pos trivial, wrap_id (by omega) (by omega)]
      rfl
  refine evSame 0 (fun k _ => ?_) (h l.length 0 (by omega))
  unfold stopcockplain_SameBytes.f
  rw [if_pos rfl]
  rfl
theorem same_calls (A B : Option Addr) (c d : Nat) (l : List Int) (hs : l.length ≤ 140737488351232) (w : World) (hA : ReadsInt w .u8 A l.length l) (hc : l.length ≤ c) (hB : ReadsInt w .u8 B l.length l) (hd : l.length ≤ d) :
    Calls Tryd.prog 13 #[.slice A l.length c, .slice B l.length d] w fun e w' => e = .returned (.bool true) ∧ Drawn0 w w' := by
  obtain ⟨k0, hk⟩ := same_ev l hs
  exact stopcockplain_SameBytes.calls k0 A c l B d l true w (Kd.C_of_reads (d := (0 : Int)) (h1 := fun _ => rfl) (readsInt_of.1 hA)) hc (Kd.C_of_reads (d := (0 : Int)) (h1 := fun _ => rfl) (readsInt_of.1 hB)) hd (hk k0 (Nat.le_refl _))
end Go.Proofs.YtiphiacidokhiaaDoor.Hand
