/- Slow start grows by what is acknowledged, eight segments at most; the careful one by a fourth of that; none behind its end. -/
import Derived.Test.YtgibiffjkmmeeaaPAx9
import Derived.Test.YtgibiffjkmmeeaaPlain
namespace Go.Proofs.Ytgibiffjkmmeeaa.Pure
open Go.RowKit Go.Proofs.Ytgibiffjkmmeeaa.PA Go.Proofs.YtgibiffjkmmeeaaW.PrintWords Go.Proofs.YtgibiffjkmmeeaaW.PrintLast Go.Proofs.YtgibiffjkmmeeaaW.PrintMore Go.Proofs.Ytgibiffjkmmeeaa.Util

theorem grow_eq (ph n m : Int) (hp : ph = 0 ∨ ph = 1 ∨ ph = 2) (h0 : 0 ≤ n) (h1 : n ≤ 1073741824) (m0 : 1 ≤ m) (m1 : m ≤ 65535) :
    hystart_Growth.f ph false false 0 0 0 0 0 n m = some (if ph = 0 then mn n (8 * m) else if ph = 1 then mn n (8 * m) / 4 else 0, 0) := by
  unfold hystart_Growth.f Hand.growthF
  rw [if_pos (by unfold Hand.may; omega), if_pos ⟨h0, h1, m0, m1⟩]
theorem HystartGrows : stopcocklaw22_HystartGrows.Pure := by
  intro a0 a1 _ _
  obtain ⟨n, hn, x0, x1⟩ := gomod a0 100000 (by omega) (by omega)
  obtain ⟨m, hm, y0, y1⟩ := gomod a1 1500 (by omega) (by omega)
  obtain ⟨K1, h1⟩ := alive_ev
  refine ⟨K1, ?_⟩
  have e1 : stopcocklaw22_alive.f K1 = some true := h1 _ (by omega)
  unfold stopcocklaw22_HystartGrows.f
  rw [e1, hn, hm]
  simp only [Option.bind_some]
  rw [if_pos trivial, wrap_id (x := 1 + m) (by omega) (by omega), grow_eq 0 n (1 + m) (by omega) (by omega) (by omega) (by omega) (by omega), grow_eq 1 n (1 + m) (by omega) (by omega) (by omega) (by omega) (by omega), grow_eq 2 n (1 + m) (by omega) (by omega) (by omega) (by omega) (by omega)]
  simp only [Option.bind_some, stopcocklaw22_num.f]
  rw [wrap_id (x := 8 * (1 + m)) (by omega) (by omega)]
  have hmn : (mn n (8 * (1 + m)) = n ∧ n ≤ 8 * (1 + m)) ∨ (mn n (8 * (1 + m)) = 8 * (1 + m) ∧ 8 * (1 + m) ≤ n) := by unfold mn; split <;> omega
  have h00 : wrap64 (wrap64 (0 + 0) + 0) = 0 := by rw [wrap_id (x := 0 + 0) (by omega) (by omega)]; exact wrap_id (by omega) (by omega)
  rw [h00, if_pos rfl]
  generalize mn n (8 * (1 + m)) = z at *
  simp only [if_true]
  have hz : 0 ≤ z := by omega
  rw [if_neg (by omega : ¬ (1 : Int) = 0), if_neg (by omega : ¬ (2 : Int) = 0), if_neg (by omega : ¬ (2 : Int) = 1), tdiv_pos hz, wrap_id (x := z / 4) (by omega) (by omega)]
  rw [if_pos (by omega), if_pos (by omega)]
  by_cases c : z = n
  · rw [if_pos c]; simp
  · rw [if_neg c, if_pos (by omega)]; simp
end Go.Proofs.Ytgibiffjkmmeeaa.Pure
