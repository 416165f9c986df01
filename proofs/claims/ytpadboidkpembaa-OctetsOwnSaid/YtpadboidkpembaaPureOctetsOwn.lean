/- Answers of octets are the caller's: of any number and text. -/
import Derived.Test.YtpadboidkpembaaPlainX
namespace Go.Proofs.Ytpadboidkpembaa.Pure
open Go.RowKit Go.Proofs.Ytpadboidkpembaa.PA Go.Proofs.YtpadboidkpembaaW.PrintWords Go.Proofs.YtpadboidkpembaaW.PrintLast Go.Proofs.YtpadboidkpembaaW.PrintMore Go.Proofs.Ytpadboidkpembaa.Util Go.Proofs.Ytpadboidkpembaa.Hand
set_option linter.unusedVariables false

theorem wfu64 {x : Int} (h : (Lit.int .u64 x).wf = true) : 0 ≤ x ∧ x < 18446744073709551616 := by
  simp [Lit.wf, IntKind.min, IntKind.max, IntKind.bits, IntKind.signed] at h
  omega
theorem OctetsOwn : stopcocklaw01_OctetsOwn.Pure := by
  intro a0 a1 h0 h1
  have b0 := wfu64 h0
  obtain ⟨r, hr, hc⟩ := back_ev a0 8 b0.1 b0.2
  have hl : r.1.length ≤ 140737488351232 := by
    rcases hc with ⟨_, _, h, _⟩ | ⟨_, h⟩
    · omega
    · rw [h]; simp
  have hu := unhex_eq a1 h1
  have hul : (uv a1).1.length ≤ 140737488351232 := Nat.le_trans (uv_len a1) h1
  obtain ⟨K1, e1⟩ := alive_ev
  obtain ⟨l1, K2, e2⟩ := spoil_ev r.1 hl
  obtain ⟨l2, K3, e3⟩ := spoil_ev (uv a1).1 hul
  obtain ⟨K4, e4⟩ := same_ev r.1 hl
  obtain ⟨K5, e5⟩ := same_ev (uv a1).1 hul
  refine ⟨K1 + K2 + K3 + K4 + K5, ?_⟩
  generalize hK : K1 + K2 + K3 + K4 + K5 = K
  unfold stopcocklaw01_OctetsOwn.f
  rw [show stopcocklaw01_alive.f K = _ from e1 K (by omega), Option.bind_some, if_pos rfl, hr, Option.bind_some, hu, Option.bind_some, copy_eq _ hl, Option.bind_some, copy_eq _ hul, Option.bind_some]
  simp only [Option.bind_some]
  rw [show stopcockplain_Spoil.f K r.1 = _ from e2 K (by omega), Option.bind_some, show stopcockplain_Spoil.f K (uv a1).1 = _ from e3 K (by omega), Option.bind_some]
  rw [show stopcockplain_SameBytes.f K r.1 r.1 = _ from e4 K (by omega), Option.bind_some, if_pos rfl, show stopcockplain_SameBytes.f K (uv a1).1 (uv a1).1 = _ from e5 K (by omega)]
  rfl
end Go.Proofs.Ytpadboidkpembaa.Pure
