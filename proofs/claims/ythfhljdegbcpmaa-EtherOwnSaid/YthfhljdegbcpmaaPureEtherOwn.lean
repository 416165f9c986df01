/- What ether answers is its holder's; what was handed in is not kept: for all frames. -/
import Derived.Test.YthfhljdegbcpmaaPlainB
namespace Go.Proofs.Ythfhljdegbcpmaa.Pure
open Go.RowKit Go.Proofs.Ythfhljdegbcpmaa.PA Go.Proofs.YthfhljdegbcpmaaW.PrintWords Go.Proofs.YthfhljdegbcpmaaW.PrintLast Go.Proofs.YthfhljdegbcpmaaW.PrintMore Go.Proofs.Ythfhljdegbcpmaa.Util Go.Proofs.Ythfhljdegbcpmaa.Hand
set_option linter.unusedVariables false
set_option linter.unusedSimpArgs false

theorem buildV_bad (d s t : Int) (dat : List Int) (h : ¬ (buildV d s t dat).2 = 0) : (buildV d s t dat).1 = [] := by
  unfold buildV at h ⊢
  split at h
  · rename_i h1; rw [if_pos h1]
  · rename_i h1
    rw [if_neg h1]
    split at h
    · rename_i h2; rw [if_pos h2]
    · exact absurd rfl h
theorem EtherOwn : stopcocklaw03_EtherOwn.Pure := by
  intro d s t dat hd hs ht hl1 hl2
  have d0 := wfu64 hd
  have s0 := wfu64 hs
  have od := oct_wf hl2
  obtain ⟨K1, e1⟩ := alive_ev
  obtain ⟨K2, e2⟩ := build_ev d s t dat d0.1 s0.1 (by omega)
  obtain ⟨_, K3, e3⟩ := spoil_ev dat (by omega)
  obtain ⟨K4, e4⟩ := same_ev (buildV d s t dat).1 (by have := buildV_len d s t dat; omega)
  obtain ⟨_, K5, e5⟩ := spoil_ev (buildV d s t dat).1 (by have := buildV_len d s t dat; omega)
  obtain ⟨K6, e6⟩ := same_ev dat (by omega)
  refine ⟨K1 + K2 + K3 + K4 + K5 + K6, ?_⟩
  obtain ⟨k, hk⟩ : ∃ k, k = K1 + K2 + K3 + K4 + K5 + K6 := ⟨_, rfl⟩
  rw [← hk]
  unfold stopcocklaw03_EtherOwn.f
  rw [show stopcocklaw03_alive.f k = _ from e1 k (by omega), Option.bind_some, if_pos rfl, copy_eq dat (by omega), Option.bind_some, show ether_Build.f k d s t dat = _ from e2 k (by omega), Option.bind_some,
    copy_eq _ (by have := buildV_len d s t dat; omega), Option.bind_some, show stopcockplain_Spoil.f k dat = _ from e3 k (by omega), Option.bind_some, show stopcockplain_SameBytes.f k (buildV d s t dat).1 (buildV d s t dat).1 = _ from e4 k (by omega), Option.bind_some, if_pos rfl]
  by_cases hok : (buildV d s t dat).2 = 0
  · obtain ⟨ob, hp⟩ := frame_back d s t dat d0.1 s0.1 od hok
    rw [parse_eq _ ob, Option.bind_some, hp]
    simp only [stopcocklaw03_num.f, Option.bind_some, if_true_eq]
    rw [show stopcockplain_Spoil.f k (buildV d s t dat).1 = _ from e5 k (by omega), Option.bind_some, show stopcockplain_SameBytes.f k dat dat = _ from e6 k (by omega), Option.bind_some]
  · rw [buildV_bad d s t dat hok, parse_eq _ (fun x hx => by simp at hx), Option.bind_some]
    rfl
end Go.Proofs.Ythfhljdegbcpmaa.Pure
