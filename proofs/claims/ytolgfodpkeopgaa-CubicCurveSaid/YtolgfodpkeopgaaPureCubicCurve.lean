import Derived.Test.YtolgfodpkeopgaaCurve
import Derived.Test.YtolgfodpkeopgaaPAx8
namespace Go.Proofs.Ytolgfodpkeopgaa.Pure
open Go.RowKit Go.Proofs.Ytolgfodpkeopgaa.PA Go.Proofs.YtolgfodpkeopgaaW.PrintWords Go.Proofs.YtolgfodpkeopgaaW.PrintLast Go.Proofs.YtolgfodpkeopgaaW.PrintMore Go.Proofs.Ytolgfodpkeopgaa.Util
set_option linter.unusedVariables false
set_option linter.unusedSimpArgs false

theorem CubicCurve : stopcocklaw21_CubicCurve.Pure := by
  intro a m d wa wm wd
  refine ⟨50, ?_⟩
  obtain ⟨hd0, hd1⟩ := tmod_bd d 30000 (by omega)
  obtain ⟨r, hr, r0, r1⟩ := gomod m 60000 (by omega) (by omega)
  unfold stopcocklaw21_CubicCurve.f
  rw [alive 50 (by omega)]
  simp only [Option.bind_some, if_true_eq]
  rw [hr, wrap_id (x := 1 + r) (by omega) (by omega)]
  generalize Int.tmod d 30000 = e at *
  obtain ⟨m, hm⟩ : ∃ m, 1 + r = m := ⟨_, rfl⟩
  rw [hm, Curve_eq a m e 50 (by omega)]
  simp only [Option.bind_some, num_eq]
  unfold CurveF
  by_cases hk : okA a m
  · rw [if_pos hk]
    obtain ⟨⟨a0, a1⟩, m0, m1⟩ := hk
    obtain ⟨p1, p2, p3, p4, p5, p6⟩ := rise_bd (d := e) m0 m1
    simp only [if_true_eq]
    by_cases z : curveF a m e = 0
    · rw [if_pos z]
    rw [if_neg z]
    by_cases y : curveF a m e = 1073741824
    · rw [if_pos y]
    rw [if_neg y]
    have ee : clampF e = e := clampF_id (by omega) (by omega)
    have hcv : curveF a m e = a + riseF m e / 10737418240 := by
      unfold curveF at *
      have h1 := mn_or (a + riseF m e / 10737418240) 1073741824
      have h2 := mx_or 0 (mn (a + riseF m e / 10737418240) 1073741824)
      omega
    have hri : 4 * m * e * e * e = riseF m e := by unfold riseF; rw [ee]
    rw [ee] at p1 p2 p3 p4
    rw [wrap_id (x := 4 * m) (by omega) (by omega), wrap_id (x := 4 * m * e) (by omega) (by omega), wrap_id (x := 4 * m * e * e) (by omega) (by omega), hri, hcv]
    generalize riseF m e = n at *
    rw [wrap_id (x := n) (by omega) (by omega), show a + n / 10737418240 - a = n / 10737418240 by omega, wrap_id (x := n / 10737418240) (by omega) (by omega), wrap_id (x := n / 10737418240 * 10737418240) (by omega) (by omega), wrap_id (x := n - n / 10737418240 * 10737418240) (by omega) (by omega), if_pos (by omega), decide_eq_true (by omega)]
  · rw [if_neg hk]
    rfl
end Go.Proofs.Ytolgfodpkeopgaa.Pure
