/- Frames and ARPs are built and read as the page says: for all values and octets. -/
import Derived.Test.YthfhljdegbcpmaaPlainA
namespace Go.Proofs.Ythfhljdegbcpmaa.Pure
open Go.RowKit Go.Proofs.Ythfhljdegbcpmaa.PA Go.Proofs.YthfhljdegbcpmaaW.PrintWords Go.Proofs.YthfhljdegbcpmaaW.PrintLast Go.Proofs.YthfhljdegbcpmaaW.PrintMore Go.Proofs.Ythfhljdegbcpmaa.Util Go.Proofs.Ythfhljdegbcpmaa.Hand
set_option linter.unusedVariables false
set_option linter.unusedSimpArgs false

theorem buildV_len (d s t : Int) (dat : List Int) : (buildV d s t dat).1.length ≤ 65535 := by
  unfold buildV
  split
  · simp
  · split
    · simp
    · simp [hi_len]; omega
theorem arpV_len (op sm si dm di : Int) : (arpV op sm si dm di).1.length ≤ 28 := by
  unfold arpV
  split
  · simp
  · split
    · simp
    · simp [hi_len, kind7]
theorem parseV_len (l : List Int) : (parseV l).2.2.2.1.length ≤ 65535 := by
  unfold parseV
  split
  · simp
  · split
    · simp
    · simp; omega
theorem EtherTells : stopcocklaw03_EtherTells.Pure := by
  intro d s t dat op sm si dm di l hd hs ht hl1 hl2 hop hsm hsi hdm hdi hb1 hb2
  have d0 := wfu64 hd
  have s0 := wfu64 hs
  have m0 := wfu64 hsm
  have m1 := wfu64 hdm
  have i0 := wfu32 hsi
  have i1 := wfu32 hdi
  have ol := oct_wf hb2
  obtain ⟨K1, e1⟩ := build_ev d s t dat d0.1 s0.1 (by omega)
  obtain ⟨K2, e2⟩ := rbuild_ev d s t dat d0.1 s0.1 (by omega)
  obtain ⟨K3, e3⟩ := rarp_ev op sm si dm di m0.1 m1.1 i0.1 (by omega) i1.1 (by omega)
  obtain ⟨K4, e4⟩ := rparse_ev l ol
  obtain ⟨K5, e5⟩ := rparseArp_ev l ol
  have e6 := arp_eq op sm si dm di m0.1 m1.1 i0.1 (by omega) i1.1 (by omega)
  have e7 := parse_eq l ol
  have e8 := parseArp_eq l ol
  obtain ⟨K9, e9⟩ := same_ev (buildV d s t dat).1 (by have := buildV_len d s t dat; omega)
  obtain ⟨K10, e10⟩ := same_ev (arpV op sm si dm di).1 (by have := arpV_len op sm si dm di; omega)
  obtain ⟨K11, e11⟩ := same_ev (parseV l).2.2.2.1 (by have := parseV_len l; omega)
  obtain ⟨K12, e12⟩ := same_ev l (by omega)
  obtain ⟨K13, e13⟩ := same_ev dat (by omega)
  obtain ⟨K14, e14⟩ := alive_ev
  refine ⟨K1 + K2 + K3 + K4 + K5 + K9 + K10 + K11 + K12 + K13 + K14, ?_⟩
  obtain ⟨k, hk⟩ : ∃ k, k = K1 + K2 + K3 + K4 + K5 + K9 + K10 + K11 + K12 + K13 + K14 := ⟨_, rfl⟩
  rw [← hk]
  generalize buildV d s t dat = B at *
  generalize arpV op sm si dm di = A at *
  generalize parseV l = P at *
  generalize rarpV l = R at *
  unfold stopcocklaw03_EtherTells.f
  rw [copy_eq l (by omega), Option.bind_some, copy_eq dat (by omega), Option.bind_some, show ether_Build.f k d s t dat = _ from e1 k (by omega), Option.bind_some, show stopcockref03_Build.f k d s t dat = _ from e2 k (by omega), Option.bind_some,
    e6, Option.bind_some, show stopcockref03_BuildArp.f k op sm si dm di = _ from e3 k (by omega), Option.bind_some, e7, Option.bind_some, show stopcockref03_Parse.f k l = _ from e4 k (by omega), Option.bind_some, e8, Option.bind_some, show stopcockref03_ParseArp.f k l = _ from e5 k (by omega), Option.bind_some,
    show stopcockplain_SameBytes.f k B.1 B.1 = _ from e9 k (by omega), Option.bind_some, if_pos rfl]
  simp only [stopcocklaw03_num.f, Option.bind_some, if_true_eq]
  rw [show stopcockplain_SameBytes.f k A.1 A.1 = _ from e10 k (by omega), Option.bind_some, if_pos rfl]
  unfold stopcockplain_SameEther.f
  rw [if_pos rfl, if_pos rfl, if_pos rfl, show stopcockplain_SameBytes.f k P.2.2.2.1 P.2.2.2.1 = _ from e11 k (by omega), Option.bind_some, Option.bind_some, if_pos rfl, if_pos (by simp)]
  rw [show stopcockplain_SameBytes.f k l l = _ from e12 k (by omega), Option.bind_some, if_pos rfl, show stopcockplain_SameBytes.f k dat dat = _ from e13 k (by omega), Option.bind_some, if_pos rfl, show stopcocklaw03_alive.f k = _ from e14 k (by omega), Option.bind_some]
end Go.Proofs.Ythfhljdegbcpmaa.Pure
