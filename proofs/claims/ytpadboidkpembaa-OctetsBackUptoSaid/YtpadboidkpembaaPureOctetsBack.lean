/- Numbers are read back from their octets and digits, octets from theirs; where the octets are 1048576 at most. -/
import Derived.Test.YtpadboidkpembaaPlainX
namespace Go.Proofs.Ytpadboidkpembaa.Pure
open Go.RowKit Go.Proofs.Ytpadboidkpembaa.PA Go.Proofs.YtpadboidkpembaaW.PrintWords Go.Proofs.YtpadboidkpembaaW.PrintLast Go.Proofs.YtpadboidkpembaaW.PrintMore Go.Proofs.Ytpadboidkpembaa.Util Go.Proofs.Ytpadboidkpembaa.Hand
set_option linter.unusedVariables false

theorem wfu64 {x : Int} (h : (Lit.int .u64 x).wf = true) : 0 ≤ x ∧ x < 18446744073709551616 := by
  simp [Lit.wf, IntKind.min, IntKind.max, IntKind.bits, IntKind.signed] at h
  omega
theorem OctetsBack : stopcocklaw01_OctetsBack.Pure := by
  intro a0 a1 a2 l3 h0 h1 h2 hm hy ho
  have b0 := wfu64 h0
  have hi : inI a2 := wf64 h2
  have hl3 : l3.length ≤ 1048576 := by omega
  have oc := oct_wf ho
  obtain ⟨r, hr, hc⟩ := back_ev a0 a1 b0.1 b0.2
  obtain ⟨K1, e1⟩ := alive_ev
  obtain ⟨K2, e2⟩ := parse_ev (strOfNums (digs a2))
  rw [parse_digs a2 hi] at e2
  obtain ⟨K3, e3⟩ := hex_ev l3 oc hl3
  have hu := unhex_eq (strOfNums (hexL l3)) (by rw [str_size, hexL_len]; omega)
  rw [unhex_hex l3 oc] at hu
  obtain ⟨K4, e4⟩ := same_ev l3 (by omega)
  obtain ⟨K5, e5⟩ : ∃ K5, r.2 = 0 → ∀ k, K5 ≤ k → octets_Get.f k r.1 = some (a0, 0) := by
    rcases hc with ⟨_, hoc, _, hv⟩ | ⟨h, _⟩
    · obtain ⟨K, e⟩ := get_ev r.1 hoc
      rw [hv] at e
      exact ⟨K, fun _ => e⟩
    · exact ⟨0, fun e => by omega⟩
  refine ⟨K1 + K2 + K3 + K4 + K5, ?_⟩
  generalize hK : K1 + K2 + K3 + K4 + K5 = K
  unfold stopcocklaw01_OctetsBack.f
  rw [show stopcocklaw01_alive.f K = _ from e1 K (by omega), Option.bind_some, if_pos rfl, decimal_eq a2 hi, Option.bind_some, show octets_ParseInt.f K (strOfNums (digs a2)) = _ from e2 K (by omega), Option.bind_some,
    show octets_Hex.f K l3 = _ from e3 K (by omega), Option.bind_some, hu, Option.bind_some]
  simp only [stopcocklaw01_num.f, Option.bind_some]
  rw [if_pos (by decide +kernel)]
  simp only [if_true]
  rw [show stopcockplain_SameBytes.f K l3 l3 = _ from e4 K (by omega), Option.bind_some, if_pos rfl, hr]
  simp only [Option.bind_some]
  rcases hc with ⟨h20, hoc, hlen, hv⟩ | ⟨h24, hnil⟩
  · rw [if_pos h20, e5 h20 K (by omega)]
    simp only [Option.bind_some]
    simp only [if_true]
    rw [hlen]
    simp
  · rw [if_neg (by omega), hnil]
    rfl
end Go.Proofs.Ytpadboidkpembaa.Pure
