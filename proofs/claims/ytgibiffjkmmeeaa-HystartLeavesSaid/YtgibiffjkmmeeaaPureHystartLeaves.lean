/- Slow start is left just when the least answer of a round is longer than the last round's by an eighth, by 4 at least, by 16 at most. -/
import Derived.Test.YtgibiffjkmmeeaaPAx6
import Derived.Test.YtgibiffjkmmeeaaPlain
namespace Go.Proofs.Ytgibiffjkmmeeaa.Pure
open Go.RowKit Go.Proofs.Ytgibiffjkmmeeaa.PA Go.Proofs.YtgibiffjkmmeeaaW.PrintWords Go.Proofs.YtgibiffjkmmeeaaW.PrintLast Go.Proofs.YtgibiffjkmmeeaaW.PrintMore Go.Proofs.Ytgibiffjkmmeeaa.Util

theorem HystartLeaves : stopcocklaw22_HystartLeaves.Pure := by
  intro a0 a1 _ _
  obtain ⟨a, ha, x0, x1⟩ := gomod a0 1000 (by omega) (by omega)
  obtain ⟨b, hb, y0, y1⟩ := gomod a1 1200 (by omega) (by omega)
  obtain ⟨ph, ba, ro, hfin⟩ : ∃ ph ba ro, fin 0 true a b 0 0 = (ph, ba, ro) := ⟨_, _, _, rfl⟩
  have hph : (ph = 1 ∧ b ≥ a + bnd a) ∨ (ph = 0 ∧ b < a + bnd a) := by
    unfold fin at hfin
    by_cases c : b ≥ a + bnd a
    · rw [if_pos ⟨rfl, rfl, c⟩] at hfin
      simp only [Prod.mk.injEq] at hfin
      omega
    · rw [if_neg (fun h => c h.2.2), if_neg (by omega)] at hfin
      simp only [Prod.mk.injEq] at hfin
      omega
  obtain ⟨K1, h1⟩ := alive_ev
  obtain ⟨K2, h2⟩ := rounds_2 a b x0 (by omega) y0 (by omega) ph ba ro hfin
  refine ⟨max K1 K2, ?_⟩
  have e1 : stopcocklaw22_alive.f (max K1 K2) = some true := h1 _ (by omega)
  have e2 : stopcocklaw22_rounds.f (max K1 K2) [a, b] = _ := h2 _ (by omega)
  unfold stopcocklaw22_HystartLeaves.f
  rw [e1, ha, hb]
  simp only [Option.bind_some]
  rw [if_pos trivial, e2]
  simp only [Option.bind_some]
  rw [tdiv_pos x0, wrap_id (x := a / 8) (by omega) (by omega), wrap_id (x := a + 4) (by omega) (by omega), wrap_id (x := a + 16) (by omega) (by omega), wrap_id (x := a + a / 8) (by omega) (by omega)]
  have hbd : bnd a = if a / 8 < 4 then 4 else if 16 < a / 8 then 16 else a / 8 := by
    unfold bnd mn mx
    by_cases c1 : a / 8 < 4
    · rw [if_pos c1, if_pos c1, if_neg (by omega)]
    · rw [if_neg c1, if_neg c1]
  by_cases c1 : a / 8 < 4
  · rw [if_pos c1] at hbd
    rw [if_pos c1]
    rcases hph with ⟨rfl, h⟩ | ⟨rfl, h⟩
    · rw [if_pos (by simp; omega)]; rfl
    · rw [if_pos (by simp; omega)]; rfl
  · rw [if_neg c1] at hbd
    rw [if_neg c1]
    by_cases c2 : 16 < a / 8
    · rw [if_pos c2] at hbd
      rw [if_pos (by omega)]
      rcases hph with ⟨rfl, h⟩ | ⟨rfl, h⟩
      · rw [if_pos (by simp; omega)]; rfl
      · rw [if_pos (by simp; omega)]; rfl
    · rw [if_neg c2] at hbd
      rw [if_neg (by omega)]
      rcases hph with ⟨rfl, h⟩ | ⟨rfl, h⟩
      · rw [if_pos (by simp; omega)]; rfl
      · rw [if_pos (by simp; omega)]; rfl
end Go.Proofs.Ytgibiffjkmmeeaa.Pure
