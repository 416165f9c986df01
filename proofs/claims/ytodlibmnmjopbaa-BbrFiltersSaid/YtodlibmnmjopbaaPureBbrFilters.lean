/- The filter of bbr behind a pair is the page's: for all lists and pairs. -/
import Derived.Test.YtodlibmnmjopbaaPlainF
namespace Go.Proofs.Ytodlibmnmjopbaa.Pure
open Go.RowKit Go.Proofs.Ytodlibmnmjopbaa.PA Go.Proofs.YtodlibmnmjopbaaW.PrintWords Go.Proofs.YtodlibmnmjopbaaW.PrintLast Go.Proofs.YtodlibmnmjopbaaW.PrintMore Go.Proofs.Ytodlibmnmjopbaa.Util Go.Proofs.Ytodlibmnmjopbaa.Hand
set_option linter.unusedVariables false
set_option linter.unusedSimpArgs false

theorem BbrFilters : stopcocklaw23_BbrFilters.Pure := by
  intro l a b hl _ _ _
  obtain ⟨K1, e1⟩ := pairs_ev l (by omega)
  obtain ⟨K2, e2⟩ := filt_ev (l.map to36) a b (by simp; omega)
  obtain ⟨R, ⟨K3, e3⟩, hR⟩ := rFilter_ev l a b (by omega)
  have hlen : R.1.length ≤ 11 := by have := filtV_len (l.map to36) a b; rw [← hR] at this; simpa using this
  obtain ⟨K4, e4⟩ := samePairs_ev R.1 (by omega)
  obtain ⟨K5, e5⟩ := samePairs_ev l (by omega)
  obtain ⟨K6, e6⟩ := alive_ev
  refine ⟨K1 + K2 + K3 + K4 + K5 + K6, ?_⟩
  obtain ⟨k, hk⟩ : ∃ k, k = K1 + K2 + K3 + K4 + K5 + K6 := ⟨_, rfl⟩
  rw [← hk]
  unfold stopcocklaw23_BbrFilters.f
  rw [show stopcocklaw23_pairs.f k l = _ from e1 k (by omega), Option.bind_some, show bbr_Filter.f k (l.map to36) a b = _ from e2 k (by omega), Option.bind_some, show stopcockref23_Filter.f k l a b = _ from e3 k (by omega), Option.bind_some, ← hR]
  show (stopcocklaw23_samePairs.f k (R.1.map to36) R.1).bind _ = _
  rw [show stopcocklaw23_samePairs.f k (R.1.map to36) R.1 = _ from e4 k (by omega), Option.bind_some, if_pos rfl]
  simp only [stopcocklaw23_num.f, Option.bind_some, if_true_eq]
  rw [show stopcocklaw23_samePairs.f k (l.map to36) l = _ from e5 k (by omega), Option.bind_some, if_pos rfl, show stopcocklaw23_alive.f k = _ from e6 k (by omega), Option.bind_some]
end Go.Proofs.Ytodlibmnmjopbaa.Pure
