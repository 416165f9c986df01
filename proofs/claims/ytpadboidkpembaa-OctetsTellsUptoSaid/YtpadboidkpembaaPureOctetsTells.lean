/- Numbers as octets and digits, octets as hexadecimal digits, any octets and texts read as such: the program's answers are the page's; where the octets are 1048576 at most. -/
import Derived.Test.YtpadboidkpembaaPlainX
namespace Go.Proofs.Ytpadboidkpembaa.Pure
open Go.RowKit Go.Proofs.Ytpadboidkpembaa.PA Go.Proofs.YtpadboidkpembaaW.PrintWords Go.Proofs.YtpadboidkpembaaW.PrintLast Go.Proofs.YtpadboidkpembaaW.PrintMore Go.Proofs.Ytpadboidkpembaa.Util Go.Proofs.Ytpadboidkpembaa.Hand
set_option linter.unusedVariables false

theorem wfu64 {x : Int} (h : (Lit.int .u64 x).wf = true) : 0 ≤ x ∧ x < 18446744073709551616 := by
  simp [Lit.wf, IntKind.min, IntKind.max, IntKind.bits, IntKind.signed] at h
  omega
theorem OctetsTells : stopcocklaw01_OctetsTells.Pure := by
  intro a0 a1 l2 a3 a4 a5 h0 h1 hm hy ho h3 h4 h5
  have b0 := wfu64 h0
  have b3 := wf64 h3
  have hl2 : l2.length ≤ 1048576 := by omega
  have oc := oct_wf ho
  obtain ⟨r, hr, hR⟩ := rput_ev a0 a1 b0.1 b0.2
  obtain ⟨r', hr', hc⟩ := back_ev a0 a1 b0.1 b0.2
  obtain rfl : r = r' := Option.some.inj (hr.symm.trans hr')
  have hl : r.1.length ≤ 140737488351232 := by
    rcases hc with ⟨_, _, h, hv⟩ | ⟨_, h⟩
    · unfold getV at hv
      by_cases c : r.1.length < 1 ∨ 8 < r.1.length
      · rw [if_pos c] at hv; cases hv
      · omega
    · rw [h]; simp
  have hu := unhex_eq a5 h5
  have hul : (uv a5).1.length ≤ 140737488351232 := Nat.le_trans (uv_len a5) h5
  have hi : inI a3 := b3
  obtain ⟨K1, e1⟩ := hR
  obtain ⟨K2, e2⟩ := get_ev l2 oc
  obtain ⟨K3, e3⟩ := rget_ev l2 oc
  obtain ⟨K4, e4⟩ := parse_ev a4
  obtain ⟨K5, e5⟩ := rparse_ev a4 h4
  obtain ⟨K6, e6⟩ := runhex_ev a5 h5
  obtain ⟨K7, e7⟩ := same_ev r.1 hl
  obtain ⟨K8, e8⟩ := same_ev (uv a5).1 hul
  obtain ⟨K9, e9⟩ := rdec_ev a3 hi
  obtain ⟨K10, e10⟩ := hex_ev l2 oc hl2
  obtain ⟨K11, e11⟩ := rhex_ev l2 oc hl2
  obtain ⟨K12, e12⟩ := same_ev l2 (by omega)
  obtain ⟨K13, e13⟩ := alive_ev
  refine ⟨K1 + K2 + K3 + K4 + K5 + K6 + K7 + K8 + K9 + K10 + K11 + K12 + K13, ?_⟩
  generalize hK : K1 + K2 + K3 + K4 + K5 + K6 + K7 + K8 + K9 + K10 + K11 + K12 + K13 = K
  unfold stopcocklaw01_OctetsTells.f
  rw [copy_eq l2 (by omega), Option.bind_some, hr, Option.bind_some, show stopcockref01_Put.f K a0 a1 = _ from e1 K (by omega), Option.bind_some, show octets_Get.f K l2 = _ from e2 K (by omega), Option.bind_some,
    show stopcockref01_Get.f K l2 = _ from e3 K (by omega), Option.bind_some, show octets_ParseInt.f K a4 = _ from e4 K (by omega), Option.bind_some, show stopcockref01_ParseInt.f K a4 = _ from e5 K (by omega), Option.bind_some,
    hu, Option.bind_some, show stopcockref01_Unhex.f K a5 = _ from e6 K (by omega), Option.bind_some, show stopcockplain_SameBytes.f K r.1 r.1 = _ from e7 K (by omega), Option.bind_some, if_pos rfl]
  simp only [stopcocklaw01_num.f, Option.bind_some]
  rw [← parse_same a4]
  simp only [if_true]
  rw [show stopcockplain_SameBytes.f K (uv a5).1 (uv a5).1 = _ from e8 K (by omega), Option.bind_some, if_pos rfl,
    decimal_eq a3 hi, Option.bind_some, show stopcockref01_Decimal.f K a3 = _ from e9 K (by omega), Option.bind_some, if_pos rfl, show octets_Hex.f K l2 = _ from e10 K (by omega), Option.bind_some,
    show stopcockref01_Hex.f K l2 = _ from e11 K (by omega), Option.bind_some, if_pos rfl, show stopcockplain_SameBytes.f K l2 l2 = _ from e12 K (by omega), Option.bind_some, if_pos rfl, show stopcocklaw01_alive.f K = _ from e13 K (by omega)]
  rfl
end Go.Proofs.Ytpadboidkpembaa.Pure
