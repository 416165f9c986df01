import Derived.Test.YtolgfodpkeopgaaCurve
import Derived.Test.YtolgfodpkeopgaaPAx9
namespace Go.Proofs.Ytolgfodpkeopgaa.Pure
open Go.RowKit Go.Proofs.Ytolgfodpkeopgaa.PA Go.Proofs.YtolgfodpkeopgaaW.PrintWords Go.Proofs.YtolgfodpkeopgaaW.PrintLast Go.Proofs.YtolgfodpkeopgaaW.PrintMore Go.Proofs.Ytolgfodpkeopgaa.Util
set_option linter.unusedVariables false
set_option linter.unusedSimpArgs false

theorem neg3 (x : Int) : (-x) * (-x) * (-x) = -(x * x * x) := by
  rw [Int.neg_mul_neg, Int.mul_neg]
theorem cube_up {x y : Int} (h : x ≤ y) : x * x * x ≤ y * y * y := by
  by_cases h0 : 0 ≤ x
  · exact cube_mono h0 h
  · by_cases h1 : 0 ≤ y
    · have q := cube_mono (x := 0) (y := -x) (by omega) (by omega)
      have r := cube_mono (x := 0) (y := y) (by omega) h1
      rw [neg3] at q
      omega
    · have q := cube_mono (x := -y) (y := -x) (by omega) (by omega)
      rw [neg3, neg3] at q
      omega
theorem rise_split (m d : Int) : riseF m d = 4 * m * (clampF d * clampF d * clampF d) := by
  unfold riseF; simp only [Int.mul_assoc]
theorem rise_up {m d e : Int} (m0 : 1 ≤ m) (h : d ≤ e) : riseF m d ≤ riseF m e := by
  rw [rise_split, rise_split]
  exact Int.mul_le_mul_of_nonneg_left (cube_up (clampF_mono h)) (by omega)
theorem curve_up {a m d e : Int} (m0 : 1 ≤ m) (h : d ≤ e) : curveF a m d ≤ curveF a m e := by
  have := rise_up m0 h
  unfold curveF
  generalize riseF m d = x at *
  generalize riseF m e = y at *
  have h1 := mn_or (a + x / 10737418240) 1073741824
  have h2 := mx_or 0 (mn (a + x / 10737418240) 1073741824)
  have h3 := mn_or (a + y / 10737418240) 1073741824
  have h4 := mx_or 0 (mn (a + y / 10737418240) 1073741824)
  omega
theorem curve_top (a m : Int) (a0 : 0 ≤ a) (a1 : a ≤ 1073741824) : curveF a m 0 = a := by
  unfold curveF
  have e : riseF m 0 = 0 := by rw [rise_split, show clampF 0 = 0 from clampF_id (by omega) (by omega)]; omega
  rw [e]
  have h1 := mn_or (a + 0 / 10737418240) 1073741824
  have h2 := mx_or 0 (mn (a + 0 / 10737418240) 1073741824)
  omega
theorem rise_back {m k : Int} (k0 : 0 ≤ k) (k1 : k ≤ 30000) : riseF m (-k) = -(4 * m * (k * k * k)) := by
  rw [rise_split, clampF_id (by omega) (by omega), neg3, Int.mul_neg]
theorem curve_behind {a c m : Int} (h : okT a c m) (hc : c ≤ a) (hk : turnF a c m ≤ 29999) : curveF a m (-turnF a c m) ≥ c - 1 ∧ curveF a m (-turnF a c m - 1) ≤ c := by
  obtain ⟨⟨⟨a0, a1⟩, c0, c1⟩, m0, m1⟩ := h
  have hb := turn_bd (a := a) (c := c) (m := m) a1 c0 m0
  have key : 4 * m * (turnF a c m * turnF a c m * turnF a c m) ≤ (a - c) * 10737418240 ∧ (a - c) * 10737418240 < 4 * m * ((turnF a c m + 1) * (turnF a c m + 1) * (turnF a c m + 1)) := by
    unfold turnF
    by_cases g : c ≥ a
    · rw [if_pos g]; omega
    · rw [if_neg g]
      obtain ⟨n0, n1⟩ := turn_n a1 c0 m0 g
      obtain ⟨⟨r0, r1, r2⟩, _⟩ := root_is _ n0 (by omega : (a - c) * 10737418240 / (4 * m) < 18446744073709551616)
      have d1 := Int.mul_ediv_self_le (x := (a - c) * 10737418240) (k := 4 * m) (by omega)
      have d2 := Int.lt_mul_ediv_self_add (x := (a - c) * 10737418240) (k := 4 * m) (by omega)
      generalize (a - c) * 10737418240 / (4 * m) = q at *
      generalize rootF q = r at *
      have e1 := Int.mul_le_mul_of_nonneg_left r1 (c := 4 * m) (by omega)
      have e2 := Int.mul_le_mul_of_nonneg_left (show q + 1 ≤ (r + 1) * (r + 1) * (r + 1) by omega) (c := 4 * m) (by omega)
      rw [Int.mul_add] at e2
      omega
  generalize turnF a c m = k at *
  obtain ⟨h1, h2⟩ := key
  have f1 := rise_back (m := m) (k := k) (by omega) (by omega)
  have f2 := rise_back (m := m) (k := k + 1) (by omega) (by omega)
  rw [show -(k + 1) = -k - 1 by omega] at f2
  unfold curveF
  rw [f1, f2]
  generalize 4 * m * (k * k * k) = x at *
  generalize 4 * m * ((k + 1) * (k + 1) * (k + 1)) = y at *
  have h3 := mn_or (a + -x / 10737418240) 1073741824
  have h4 := mx_or 0 (mn (a + -x / 10737418240) 1073741824)
  have h5 := mn_or (a + -y / 10737418240) 1073741824
  have h6 := mx_or 0 (mn (a + -y / 10737418240) 1073741824)
  omega
theorem CubicRises : stopcocklaw21_CubicRises.Pure := by
  intro a c m d wa wc wm wd
  have hc := wf64 wc
  suffices h : ∀ k, 50 ≤ k → stopcocklaw21_CubicRises.f (k + 1 + 1) a c m d = some true from ⟨52, h 50 (by omega)⟩
  intro k hk
  obtain ⟨hd0, hd1⟩ := tmod_bd d 40000 (by omega)
  unfold stopcocklaw21_CubicRises.f
  rw [alive (k + 1 + 1) (by omega)]
  simp only [Option.bind_some, if_true_eq]
  generalize Int.tmod d 40000 = e at *
  rw [wrap_id (x := e + 1) (by omega) (by omega), Curve_eq a m e _ (by omega), Curve_eq a m (e + 1) _ (by omega), Curve_eq a m 0 _ (by omega), Turn_eq a c m _ (by omega)]
  simp only [Option.bind_some, num_eq]
  unfold CurveF
  by_cases ho : okA a m
  · rw [if_pos ho, if_pos ho, if_pos ho]
    have ha := ho.1
    have hm := ho.2
    simp only [if_true_eq]
    rw [if_pos (show wrap64 (0 + 0) = 0 from wrap_id (by omega) (by omega)), if_neg (by have := curve_up (a := a) (m := m) (d := e) (e := e + 1) hm.1 (by omega); omega), curve_top a m ha.1 ha.2]
    have hne : (a != a) = false := by simp
    rw [hne]
    simp only [stopcocklaw21_CubicRises.j0, stopcocklaw21_CubicRises.j1, num_eq, Option.bind_some]
    rw [if_neg (by decide)]
    unfold TurnF
    by_cases ht : okT a c m
    · rw [if_pos ht]
      simp only [if_true_eq]
      by_cases hca : c > a
      · rw [if_pos hca, if_pos hca]
      · rw [if_neg hca]
        by_cases hk2 : turnF a c m > 29999
        · rw [decide_eq_true hk2]
          simp only [if_true_eq]
          rw [if_neg hca]
        · have hb := turn_bd (a := a) (c := c) (m := m) ht.1.1.2 ht.1.2.1 ht.2.1
          have hct := ht.1.2
          have hb2 := curve_behind ht (by omega) (by omega)
          rw [decide_eq_false hk2, if_neg (by decide), wrap_id (x := -turnF a c m) (by omega) (by omega), wrap_id (x := -turnF a c m - 1) (by omega) (by omega), Curve_eq _ _ _ k (by omega), Curve_eq _ _ _ k (by omega), wrap_id (x := c - 1) (by omega) (by omega)]
          simp only [Option.bind_some]
          unfold CurveF
          rw [if_pos ho, if_pos ho, if_pos hb2.1, decide_eq_true hb2.2]
    · rw [if_neg ht]
      simp only [if_true_eq]
      rw [if_neg (by decide), if_neg (by decide)]
  · rw [if_neg ho, if_neg ho, if_neg ho]
    rfl
end Go.Proofs.Ytolgfodpkeopgaa.Pure
