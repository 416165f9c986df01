/- Frames and ARPs are read back from their octets; octets that are read are what is built of them: for all. -/
import Derived.Test.YthfhljdegbcpmaaPlainB
namespace Go.Proofs.Ythfhljdegbcpmaa.Pure
open Go.RowKit Go.Proofs.Ythfhljdegbcpmaa.PA Go.Proofs.YthfhljdegbcpmaaW.PrintWords Go.Proofs.YthfhljdegbcpmaaW.PrintLast Go.Proofs.YthfhljdegbcpmaaW.PrintMore Go.Proofs.Ythfhljdegbcpmaa.Util Go.Proofs.Ythfhljdegbcpmaa.Hand
set_option linter.unusedVariables false
set_option linter.unusedSimpArgs false

theorem back2_ev (l : List Int) (h : oct l) : Ev (fun k => stopcocklaw03_EtherBack.j2 k l) true := by
  obtain ⟨K1, e1⟩ := same_ev (l.take 28) (by simp; omega)
  refine evEnd (K1 + 1) (fun k hk => ?_)
  obtain ⟨m, rfl⟩ : ∃ m, k = m + 1 := ⟨k - 1, by omega⟩
  simp only [stopcocklaw03_EtherBack.j2]
  rw [parseArp_eq l h, Option.bind_some]
  simp only [stopcocklaw03_num.f, Option.bind_some]
  by_cases h0 : (rarpV l).2.2.2.2.2 = 0
  · obtain ⟨g1, g2, g3, g4, g5, g6⟩ := arp_fwd l h h0
    rw [if_pos h0, arp_eq _ _ _ _ _ g2 g3 g4.1 g4.2 g5.1 g5.2, Option.bind_some, g6, if_pos rfl, if_pos (by omega), show stopcockplain_SameBytes.f m (l.take 28) (l.take 28) = _ from e1 m (by omega), Option.bind_some]
  · obtain ⟨z1, z2, z3, z4, z5⟩ := rarp_zero l h0
    rw [if_neg h0, z1, z2, z3, z4, z5]
    rfl
theorem back1_ev (l : List Int) (h : oct l) (hl : l.length ≤ 140737488351232) : Ev (fun k => stopcocklaw03_EtherBack.j1 k l) true := by
  obtain ⟨K1, e1⟩ := back2_ev l h
  obtain ⟨K2, e2⟩ := same_ev l (by omega)
  by_cases h0 : (parseV l).2.2.2.2 = 0
  · obtain ⟨g1, g2, g3, g4⟩ := frame_fwd l h h0
    obtain ⟨K3, e3⟩ := build_ev (parseV l).1 (parseV l).2.1 (parseV l).2.2.1 (parseV l).2.2.2.1 g1 g2 (by omega)
    refine evEnd (K1 + K2 + K3 + 1) (fun k hk => ?_)
    obtain ⟨m, rfl⟩ : ∃ m, k = m + 1 := ⟨k - 1, by omega⟩
    simp only [stopcocklaw03_EtherBack.j1]
    rw [parse_eq l h, Option.bind_some]
    simp only [stopcocklaw03_num.f, Option.bind_some]
    rw [if_pos h0, show ether_Build.f m (parseV l).1 (parseV l).2.1 (parseV l).2.2.1 (parseV l).2.2.2.1 = _ from e3 m (by omega), Option.bind_some, g4, if_pos rfl, show stopcockplain_SameBytes.f m l l = _ from e2 m (by omega), Option.bind_some, if_pos rfl]
    exact e1 m (by omega)
  · refine evEnd (K1 + 1) (fun k hk => ?_)
    obtain ⟨m, rfl⟩ : ∃ m, k = m + 1 := ⟨k - 1, by omega⟩
    simp only [stopcocklaw03_EtherBack.j1]
    rw [parse_eq l h, Option.bind_some]
    simp only [stopcocklaw03_num.f, Option.bind_some]
    rw [if_neg h0]
    exact e1 m (by omega)
theorem back0_ev (l : List Int) (h : oct l) (hl : l.length ≤ 140737488351232) (op sm si dm di : Int) (h1 : 0 ≤ sm) (h2 : 0 ≤ dm) (h3 : 0 ≤ si) (h4 : si < 4294967296) (h5 : 0 ≤ di) (h6 : di < 4294967296) : Ev (fun k => stopcocklaw03_EtherBack.j0 k l op sm si dm di) true := by
  obtain ⟨K1, e1⟩ := back1_ev l h hl
  refine evEnd (K1 + 1) (fun k hk => ?_)
  obtain ⟨m, rfl⟩ : ∃ m, k = m + 1 := ⟨k - 1, by omega⟩
  simp only [stopcocklaw03_EtherBack.j0]
  rw [arp_eq op sm si dm di h1 h2 h3 h4 h5 h6, Option.bind_some]
  simp only [stopcocklaw03_num.f, Option.bind_some]
  by_cases h0 : (arpV op sm si dm di).2 = 0
  · obtain ⟨oa, hb⟩ := arp_back op sm si dm di h1 h2 h3 h4 h5 h6 h0
    rw [if_pos h0, parseArp_eq _ oa, Option.bind_some, hb, if_pos rfl, if_neg (by simp)]
    exact e1 m (by omega)
  · rw [if_neg h0]
    exact e1 m (by omega)
theorem EtherBack : stopcocklaw03_EtherBack.Pure := by
  intro d s t dat op sm si dm di l hd hs ht hl1 hl2 hop hsm hsi hdm hdi hb1 hb2
  have d0 := wfu64 hd
  have s0 := wfu64 hs
  have m0 := wfu64 hsm
  have m1 := wfu64 hdm
  have i0 := wfu32 hsi
  have i1 := wfu32 hdi
  have ol := oct_wf hb2
  have od := oct_wf hl2
  obtain ⟨K1, e1⟩ := build_ev d s t dat d0.1 s0.1 (by omega)
  obtain ⟨K2, e2⟩ := alive_ev
  obtain ⟨K3, e3⟩ := back0_ev l ol (by omega) op sm si dm di m0.1 m1.1 i0.1 (by omega) i1.1 (by omega)
  obtain ⟨K4, e4⟩ := same_ev dat (by omega)
  refine ⟨K1 + K2 + K3 + K4, ?_⟩
  obtain ⟨k, hk⟩ : ∃ k, k = K1 + K2 + K3 + K4 := ⟨_, rfl⟩
  rw [← hk]
  unfold stopcocklaw03_EtherBack.f
  rw [show stopcocklaw03_alive.f k = _ from e2 k (by omega), Option.bind_some, if_pos rfl, show ether_Build.f k d s t dat = _ from e1 k (by omega), Option.bind_some]
  simp only [stopcocklaw03_num.f, Option.bind_some]
  by_cases h0 : (buildV d s t dat).2 = 0
  · obtain ⟨ob, hp⟩ := frame_back d s t dat d0.1 s0.1 od h0
    rw [if_pos h0, parse_eq _ ob, Option.bind_some, hp, if_pos rfl]
    unfold stopcockplain_SameEther.f
    rw [if_pos rfl, if_pos rfl, if_pos rfl, show stopcockplain_SameBytes.f k dat dat = _ from e4 k (by omega), Option.bind_some, Option.bind_some, if_pos rfl]
    exact e3 k (by omega)
  · rw [if_neg h0]
    exact e3 k (by omega)
end Go.Proofs.Ythfhljdegbcpmaa.Pure
