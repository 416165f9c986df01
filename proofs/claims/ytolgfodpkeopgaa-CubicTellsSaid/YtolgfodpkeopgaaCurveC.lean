/- As Curve, for the texts of the namespace PC. -/
import Derived.Test.YtolgfodpkeopgaaPlainC
import Derived.Test.YtolgfodpkeopgaaPCx8
import Derived.Test.YtolgfodpkeopgaaPCx9
import Derived.Test.YtolgfodpkeopgaaPCx15
import Derived.Test.YtolgfodpkeopgaaPCx17
namespace Go.Proofs.Ytolgfodpkeopgaa.PureC
open Go.RowKit Go.Proofs.Ytolgfodpkeopgaa.PC Go.Proofs.YtolgfodpkeopgaaW.PrintWords Go.Proofs.YtolgfodpkeopgaaW.PrintLast Go.Proofs.YtolgfodpkeopgaaW.PrintMore Go.Proofs.Ytolgfodpkeopgaa.Util
set_option linter.unusedVariables false
set_option linter.unusedSimpArgs false

theorem tdiv_neg' {n b : Int} (h : n < 0) : Int.tdiv n b = -((-n) / b) := by
  have e := tdiv_pos (a := -n) (b := b) (by omega)
  rw [Int.neg_tdiv] at e
  omega
theorem tmod_neg' {n b : Int} (h : n < 0) : Int.tmod n b = -((-n) % b) := by
  have e := tmod_pos (a := -n) (b := b) (by omega)
  rw [Int.neg_tmod] at e
  omega
theorem clamp_f (d a b : Int) : cubic_clamp.f d a b = some (mn (mx d a) b) := rfl
theorem curve_eq (a m d : Int) (a0 : 0 ≤ a) (a1 : a ≤ 1073741824) (m0 : 1 ≤ m) (m1 : m ≤ 65535) : cubic_curve.f a m d = some (curveF a m d) := by
  obtain ⟨r1, r2, r3, r4, r5, r6⟩ := rise_bd (d := d) m0 m1
  unfold cubic_curve.f
  rw [clamp_f]
  simp only [Option.bind_some]
  rw [show mn (mx d (-30000)) 30000 = clampF d from rfl, wrap_id (x := 4 * m) (by omega) (by omega), wrap_id (x := 4 * m * clampF d) (by omega) (by omega), wrap_id (x := 4 * m * clampF d * clampF d) (by omega) (by omega), show 4 * m * clampF d * clampF d * clampF d = riseF m d from rfl, wrap_id (x := riseF m d) (by omega) (by omega)]
  unfold curveF
  generalize riseF m d = n at *
  by_cases h : n < 0
  · rw [if_pos h, tmod_neg' h, tdiv_neg' h, wrap_id (x := -(-n / 10737418240)) (by omega) (by omega), wrap_id (x := a + -(-n / 10737418240)) (by omega) (by omega), clamp_f, clamp_f]
    by_cases e : -(-n % 10737418240) = 0
    · rw [if_pos e]
      simp only [Option.bind_some]
      rw [clamp3, show a + -(-n / 10737418240) = a + n / 10737418240 by omega]
    · rw [if_neg e, wrap_id (by omega) (by omega)]
      simp only [Option.bind_some]
      rw [clamp3, show a + -(-n / 10737418240) - 1 = a + n / 10737418240 by omega]
  · rw [if_neg h, tdiv_pos (by omega), wrap_id (x := n / 10737418240) (by omega) (by omega), wrap_id (by omega) (by omega), clamp_f]
    simp only [Option.bind_some]
    rw [clamp3]
theorem in1 (lo hi x : Int) (k : Nat) (hk : 2 ≤ k) : cubic_inside.f k lo hi [x] = some (decide (lo ≤ x ∧ x ≤ hi)) := by
  rw [inside lo hi [x] (by simp) k (by simp; omega)]
  simp
theorem in2 (lo hi x y : Int) (k : Nat) (hk : 3 ≤ k) : cubic_inside.f k lo hi [x, y] = some (decide ((lo ≤ x ∧ x ≤ hi) ∧ lo ≤ y ∧ y ≤ hi)) := by
  rw [inside lo hi [x, y] (by simp) k (by simp; omega)]
  simp
theorem within_eq (x lo hi : Int) : stopcockref21_within.f x lo hi = some (decide (lo ≤ x ∧ x ≤ hi)) := by
  unfold stopcockref21_within.f
  by_cases h : x ≥ lo
  · rw [if_pos h]; congr 1; exact decide_eq_decide.2 ⟨fun q => ⟨h, q⟩, fun q => q.2⟩
  · rw [if_neg h]; congr 1; exact (decide_eq_false (fun q => h q.1)).symm
def okA (a m : Int) : Prop := (0 ≤ a ∧ a ≤ 1073741824) ∧ (1 ≤ m ∧ m ≤ 65535)
instance (a m : Int) : Decidable (okA a m) := by unfold okA; infer_instance
def CurveF (a m d : Int) : Int × Int := if okA a m then (curveF a m d, 0) else (0, 4)
theorem Curve_eq (a m d : Int) (k : Nat) (hk : 3 ≤ k) : cubic_Curve.f k a m d = some (CurveF a m d) := by
  unfold cubic_Curve.f CurveF
  rw [in1 _ _ _ k (by omega), in1 _ _ _ k (by omega)]
  simp only [Option.bind_some, decide_eq_true_eq]
  by_cases h1 : 0 ≤ a ∧ a ≤ 1073741824
  · by_cases h2 : 1 ≤ m ∧ m ≤ 65535
    · rw [if_pos h1, if_pos h2, if_pos (show okA a m from ⟨h1, h2⟩), curve_eq a m d h1.1 h1.2 h2.1 h2.2]; rfl
    · rw [if_pos h1, if_neg h2, if_neg (fun q : okA a m => h2 q.2)]
  · rw [if_neg h1, if_neg (fun q : okA a m => h1 q.1)]
theorem down_eq (n : Int) (n0 : -9000000000000000000 ≤ n) (n1 : n ≤ 9000000000000000000) : stopcockref21_down.f n 10737418240 = some (n / 10737418240) := by
  unfold stopcockref21_down.f
  rw [if_neg (by decide)]
  by_cases h : n < 0
  · rw [tmod_neg' h, tdiv_neg' h, wrap_id (x := -(-n / 10737418240)) (by omega) (by omega)]
    by_cases e : -(-n % 10737418240) < 0
    · rw [if_pos e, wrap_id (by omega) (by omega)]; congr 1; omega
    · rw [if_neg e]; congr 1; omega
  · rw [tmod_pos (by omega), tdiv_pos (by omega), if_neg (by omega), wrap_id (by omega) (by omega)]
theorem rise_ref (m d : Int) (m0 : 1 ≤ m) (m1 : m ≤ 65535) : (wrap64 ((wrap64 (4 * m)) * (wrap64 ((wrap64 (clampF d * clampF d)) * clampF d)))) = riseF m d := by
  obtain ⟨r1, r2, r3, r4, r5, r6⟩ := rise_bd (d := d) m0 m1
  obtain ⟨c0, c1⟩ := clampF_bd d
  have h2 := abs_mul (A := 30000) (B := 30000) c0 c1 c0 c1
  have h3 := abs_mul (A := 900000000) (B := 30000) (a := clampF d * clampF d) (by omega) (by omega) c0 c1
  have e : 4 * m * (clampF d * clampF d * clampF d) = riseF m d := by unfold riseF; simp only [Int.mul_assoc]
  rw [wrap_id (x := 4 * m) (by omega) (by omega), wrap_id (x := clampF d * clampF d) (by omega) (by omega), wrap_id (x := clampF d * clampF d * clampF d) (by omega) (by omega), e, wrap_id (by omega) (by omega)]
theorem rCurve_eq (a m d : Int) : stopcockref21_Curve.f a m d = some (CurveF a m d) := by
  unfold stopcockref21_Curve.f CurveF
  simp only [within_eq, Option.bind_some, decide_eq_true_eq]
  by_cases h1 : 0 ≤ a ∧ a ≤ 1073741824
  · by_cases h2 : 1 ≤ m ∧ m ≤ 65535
    · obtain ⟨r1, r2, r3, r4, r5, r6⟩ := rise_bd (d := d) h2.1 h2.2
      rw [if_pos h1, if_pos h2, if_pos (show okA a m from ⟨h1, h2⟩), clampF_ref, rise_ref m d h2.1 h2.2, down_eq _ (by omega) (by omega)]
      simp only [Option.bind_some]
      rw [wrap_id (by omega) (by omega)]; rfl
    · rw [if_pos h1, if_neg h2, if_neg (fun q : okA a m => h2 q.2)]
  · rw [if_neg h1, if_neg (fun q : okA a m => h1 q.1)]
noncomputable def turnF (a c m : Int) : Int := if c ≥ a then 0 else rootF ((a - c) * 10737418240 / (4 * m))
theorem turn_n {a c m : Int} (a1 : a ≤ 1073741824) (c0 : 0 ≤ c) (m0 : 1 ≤ m) (h : ¬ c ≥ a) : 0 ≤ (a - c) * 10737418240 / (4 * m) ∧ (a - c) * 10737418240 / (4 * m) ≤ 11529215046068469760 := by
  have h0 : 0 ≤ (a - c) * 10737418240 := by omega
  exact ⟨ediv_lo h0 (by omega), Int.le_trans (ediv_hi h0) (by omega)⟩
theorem turn_bd {a c m : Int} (a1 : a ≤ 1073741824) (c0 : 0 ≤ c) (m0 : 1 ≤ m) : 0 ≤ turnF a c m ∧ turnF a c m ≤ 2642245 := by
  unfold turnF
  by_cases h : c ≥ a
  · rw [if_pos h]; omega
  · rw [if_neg h]
    obtain ⟨n0, n1⟩ := turn_n a1 c0 m0 h
    exact ⟨(root_is _ n0 (by omega)).1.1, root_top n0 (by omega)⟩
theorem turn_eq (a c m : Int) (a1 : a ≤ 1073741824) (c0 : 0 ≤ c) (m0 : 1 ≤ m) (m1 : m ≤ 65535) (k : Nat) (hk : 30 ≤ k) : cubic_turn.f k a c m = some (turnF a c m) := by
  have hb := turn_bd (a := a) (c := c) (m := m) a1 c0 m0
  unfold cubic_turn.f
  unfold turnF at *
  by_cases h : c ≥ a
  · rw [if_pos h, if_pos h]
  · obtain ⟨n0, n1⟩ := turn_n a1 c0 m0 h
    rw [if_neg h] at hb
    rw [if_neg h, if_neg h, wrap_id (x := 4 * m) (by omega) (by omega), wrap_id (x := a - c) (by omega) (by omega), u64_id (x := 4 * m) (by omega) (by omega), u64_id (x := a - c) (by omega) (by omega), u64_id (x := (a - c) * 10737418240) (by omega) (by omega), if_neg (by omega), tdiv_pos (by omega), u64_id (x := (a - c) * 10737418240 / (4 * m)) (by omega) (by omega), root_eq _ n0 (by omega) k hk]
    simp only [Option.bind_some]
    rw [wrap_id (by omega) (by omega)]
def okT (a c m : Int) : Prop := ((0 ≤ a ∧ a ≤ 1073741824) ∧ (0 ≤ c ∧ c ≤ 1073741824)) ∧ (1 ≤ m ∧ m ≤ 65535)
instance (a c m : Int) : Decidable (okT a c m) := by unfold okT; infer_instance
noncomputable def TurnF (a c m : Int) : Int × Int := if okT a c m then (turnF a c m, 0) else (0, 4)
theorem Turn_eq (a c m : Int) (k : Nat) (hk : 30 ≤ k) : cubic_Turn.f k a c m = some (TurnF a c m) := by
  unfold cubic_Turn.f TurnF
  rw [in2 _ _ _ _ k (by omega), in1 _ _ _ k (by omega)]
  simp only [Option.bind_some, decide_eq_true_eq]
  by_cases h1 : (0 ≤ a ∧ a ≤ 1073741824) ∧ (0 ≤ c ∧ c ≤ 1073741824)
  · by_cases h2 : 1 ≤ m ∧ m ≤ 65535
    · rw [if_pos h1, if_pos h2, if_pos (show okT a c m from ⟨h1, h2⟩), turn_eq a c m h1.1.2 h1.2.1 h2.1 h2.2 k hk]; rfl
    · rw [if_pos h1, if_neg h2, if_neg (fun q : okT a c m => h2 q.2)]
  · rw [if_neg h1, if_neg (fun q : okT a c m => h1 q.1)]
theorem rTurn_eq (a c m : Int) (k : Nat) (hk : 31 ≤ k) : stopcockref21_Turn.f k a c m = some (TurnF a c m) := by
  obtain ⟨k, rfl⟩ : ∃ j, k = j + 1 := ⟨k - 1, by omega⟩
  unfold stopcockref21_Turn.f TurnF
  simp only [within_eq, Option.bind_some, decide_eq_true_eq, stopcockref21_Turn.j0, if_true_eq, reduceIte]
  by_cases h1 : 0 ≤ a ∧ a ≤ 1073741824
  · by_cases h2 : 0 ≤ c ∧ c ≤ 1073741824
    · by_cases h3 : 1 ≤ m ∧ m ≤ 65535
      · have hb := turn_bd (a := a) (c := c) (m := m) h1.2 h2.1 h3.1
        rw [if_pos h1, if_pos h2, decide_eq_true h3, if_neg (by decide), if_pos (show okT a c m from ⟨⟨h1, h2⟩, h3⟩)]
        unfold turnF at *
        by_cases h : c ≥ a
        · rw [if_pos h, if_pos h]
        · obtain ⟨n0, n1⟩ := turn_n h1.2 h2.1 h3.1 h
          rw [if_neg h] at hb
          rw [if_neg h, if_neg h, wrap_id (x := 4 * m) (by omega) (by omega), wrap_id (x := a - c) (by omega) (by omega), u64_id (x := 4 * m) (by omega) (by omega), u64_id (x := a - c) (by omega) (by omega), u64_id (x := (a - c) * 10) (by omega) (by omega), u64_id (x := (a - c) * 10 * 1024) (by omega) (by omega), u64_id (x := (a - c) * 10 * 1024 * 1024) (by omega) (by omega), u64_id (x := (a - c) * 10 * 1024 * 1024 * 1024) (by omega) (by omega), if_neg (by omega), tdiv_pos (by omega), show (a - c) * 10 * 1024 * 1024 * 1024 = (a - c) * 10737418240 by omega, u64_id (x := (a - c) * 10737418240 / (4 * m)) (by omega) (by omega), rroot_eq _ n0 (by omega) k (by omega)]
          simp only [Option.bind_some]
          rw [wrap_id (by omega) (by omega)]
      · rw [if_pos h1, if_pos h2, decide_eq_false h3, if_pos (by decide), if_neg (fun q : okT a c m => h3 q.2)]
    · rw [if_pos h1, if_neg h2, if_neg (fun q : okT a c m => h2 q.1.2)]
  · rw [if_neg h1, if_neg (fun q : okT a c m => h1 q.1.1)]
theorem num_eq (x : Int) : stopcocklaw21_num.f x = some x := rfl
theorem alive_ev : Ev (fun k => stopcocklaw21_alive.f k) true := by
  refine ⟨40, fun k hk => ?_⟩
  obtain ⟨j, rfl⟩ : ∃ j, k = 40 + j := ⟨k - 40, by omega⟩
  have h : stopcocklaw21_alive.f 40 = some true := by decide +kernel
  induction j with
  | zero => exact h
  | succ j ih => exact stopcocklaw21_alive.mono (40 + j) true (ih (by omega))
theorem alive (k : Nat) (hk : 40 ≤ k) : stopcocklaw21_alive.f k = some true := by
  have h : stopcocklaw21_alive.f 40 = some true := by decide +kernel
  obtain ⟨j, rfl⟩ : ∃ j, k = 40 + j := ⟨k - 40, by omega⟩
  clear hk
  induction j with
  | zero => exact h
  | succ j ih => exact stopcocklaw21_alive.mono (40 + j) true ih
end Go.Proofs.Ytolgfodpkeopgaa.PureC
