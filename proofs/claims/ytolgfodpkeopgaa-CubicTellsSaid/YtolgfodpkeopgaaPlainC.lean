/- As Plain, for the texts of the namespace PC. -/
import Derived.Test.YtolgfodpkeopgaaPCx3
import Derived.Test.YtolgfodpkeopgaaPCx4
import Derived.Test.YtolgfodpkeopgaaPCx16
import Derived.Test.YtolgfodpkeopgaaUtil
import Derived.Laws.MathBits
namespace Go.Proofs.Ytolgfodpkeopgaa.PureC
open Go.RowKit Go.Proofs.Ytolgfodpkeopgaa.PC Go.Proofs.YtolgfodpkeopgaaW.PrintWords Go.Proofs.YtolgfodpkeopgaaW.PrintLast Go.Proofs.YtolgfodpkeopgaaW.PrintMore Go.Proofs.Ytolgfodpkeopgaa.Util
set_option linter.unusedVariables false
set_option linter.unusedSimpArgs false

theorem u64_id {x : Int} (h0 : 0 ≤ x) (h1 : x < 18446744073709551616) : IntKind.u64.wrap x = x := by
  rw [IntKind.wrap_u64]; omega
theorem inside_l0 (lo hi : Int) (l : List Int) (hl : l.length ≤ 1000) : ∀ (d : Nat) (i : Nat) (k : Nat), i + d = l.length → d < k →
    cubic_inside.l0 k lo hi l (l.length : Int) (i : Int) = some (decide (∀ n ∈ l.drop i, lo ≤ n ∧ n ≤ hi)) := by
  intro d
  induction d with
  | zero =>
    intro i k h hk
    obtain ⟨k, rfl⟩ : ∃ m, k = m + 1 := ⟨k - 1, by omega⟩
    simp only [cubic_inside.l0]
    rw [if_neg (by omega), List.drop_of_length_le (by omega)]
    simp
  | succ d ih =>
    intro i k h hk
    obtain ⟨k, rfl⟩ : ∃ m, k = m + 1 := ⟨k - 1, by omega⟩
    have hi' : i < l.length := by omega
    simp only [cubic_inside.l0]
    have hrd : rd l (i : Int) = l[i] := by unfold rd; rw [Int.toNat_natCast, getD_eq l i 0 hi']
    rw [if_pos (by omega), if_pos (by omega), if_pos (by omega), hrd, List.drop_eq_getElem_cons hi']
    rw [show wrap64 ((i : Int) + 1) = ((i + 1 : Nat) : Int) by rw [wrap_id (by omega) (by omega)]; omega]
    by_cases h1 : l[i] < lo
    · rw [if_pos h1]
      simp only [List.mem_cons, forall_eq_or_imp, Option.some.injEq]
      exact (decide_eq_false (fun hh => by have := hh.1.1; omega)).symm
    · rw [if_neg h1]
      by_cases h2 : l[i] > hi
      · rw [if_pos h2]
        simp only [List.mem_cons, forall_eq_or_imp, Option.some.injEq]
        exact (decide_eq_false (fun hh => by have := hh.1.2; omega)).symm
      · rw [if_neg h2, ih (i + 1) k (by omega) (by omega)]
        simp only [List.mem_cons, forall_eq_or_imp, Option.some.injEq]
        exact decide_eq_decide.2 ⟨fun hh => ⟨⟨by omega, by omega⟩, hh⟩, fun hh => hh.2⟩
theorem inside (lo hi : Int) (l : List Int) (hl : l.length ≤ 1000) (k : Nat) (hk : l.length < k) : cubic_inside.f k lo hi l = some (decide (∀ n ∈ l, lo ≤ n ∧ n ≤ hi)) := by
  unfold cubic_inside.f
  have := inside_l0 lo hi l hl l.length 0 k (by omega) hk
  simpa using this

/-! A product of 64 bits by 32. -/
theorem mul64 (a b : Int) (a0 : 0 ≤ a) (a1 : a < 18446744073709551616) (b0 : 0 ≤ b) (b1 : b < 4294967296) : bits_Mul64.f a b = some (a * b / 18446744073709551616, IntKind.u64.wrap (a * b)) := by
  unfold bits_Mul64.f
  have e0 : b / 4294967296 = 0 := by omega
  rw [and_low32 a a0 a1, and_low32 b b0 (by omega), e0, show b % 4294967296 = b by omega]
  have hx0 := Int.emod_nonneg a (show (4294967296 : Int) ≠ 0 by decide)
  have hx1 := Int.emod_lt_of_pos a (show (0 : Int) < 4294967296 by decide)
  have hy0 : 0 ≤ a / 4294967296 := by omega
  have hy1 : a / 4294967296 < 4294967296 := by omega
  have hm : a * b = (a / 4294967296 * b) * 4294967296 + a % 4294967296 * b := by
    have h := Int.mul_ediv_add_emod a 4294967296
    have h2 : a = a / 4294967296 * 4294967296 + a % 4294967296 := by omega
    rw [show a * b = (a / 4294967296 * 4294967296 + a % 4294967296) * b by rw [← h2], Int.add_mul, Int.mul_assoc, Int.mul_comm 4294967296 b, ← Int.mul_assoc]
  have p0 : 0 ≤ a / 4294967296 * b := Int.mul_nonneg hy0 b0
  have p1 : a / 4294967296 * b ≤ 4294967295 * 4294967295 := Int.mul_le_mul (by omega) (by omega) b0 (by omega)
  have q0 : 0 ≤ a % 4294967296 * b := Int.mul_nonneg hx0 b0
  have q1 : a % 4294967296 * b ≤ 4294967295 * 4294967295 := Int.mul_le_mul (by omega) (by omega) b0 (by omega)
  rw [Int.mul_zero, Int.mul_zero, u64_id (x := 0) (by omega) (by omega), u64_id q0 (by omega), u64_id p0 (by omega)]
  generalize a / 4294967296 * b = P at *
  generalize a % 4294967296 * b = Q at *
  have ht0 : 0 ≤ P + Q / 4294967296 := by omega
  have ht1 : P + Q / 4294967296 < 18446744073709551616 := by omega
  rw [u64_id ht0 ht1, and_low32 _ ht0 ht1, u64_id (x := (P + Q / 4294967296) % 4294967296 + 0) (by omega) (by omega), u64_id (x := 0 + (P + Q / 4294967296) / 4294967296) (by omega) (by omega), u64_id (by omega) (by omega), hm]
  congr 2
  omega
theorem cube_eq (m n : Int) (m0 : 0 ≤ m) (m1 : m ≤ 4194304) (n1 : n < 18446744073709551616) : cubic_cube.f m n = some (decide (m * m * m ≤ n)) := by
  unfold cubic_cube.f
  have h1 : 0 ≤ m * m := Int.mul_nonneg m0 m0
  have h2 : m * m ≤ 4194304 * 4194304 := Int.mul_le_mul m1 m1 m0 (by omega)
  have h3 : 0 ≤ m * m * m := Int.mul_nonneg h1 m0
  rw [mul64 m m m0 (by omega) m0 (by omega), u64_id h1 (by omega)]
  simp only [Option.bind_some]
  rw [if_neg (by omega), mul64 (m * m) m h1 (by omega) m0 (by omega)]
  simp only [Option.bind_some]
  generalize m * m * m = c at *
  by_cases hc : c < 18446744073709551616
  · rw [if_pos (by omega), u64_id h3 hc]
  · rw [if_neg (by omega)]
    simp; omega

theorem cube_mono {x y : Int} (h0 : 0 ≤ x) (h : x ≤ y) : x * x * x ≤ y * y * y :=
  Int.mul_le_mul (Int.mul_le_mul h h h0 (by omega)) h h0 (Int.mul_nonneg (by omega) (by omega))
def isRoot (n r : Int) : Prop := 0 ≤ r ∧ r * r * r ≤ n ∧ n < (r + 1) * (r + 1) * (r + 1)
theorem root_unique {n r s : Int} (h : isRoot n r) (k : isRoot n s) : r = s := by
  obtain ⟨h1, h2, h3⟩ := h
  obtain ⟨k1, k2, k3⟩ := k
  rcases Int.lt_trichotomy r s with c | c | c
  · have := cube_mono (x := r + 1) (y := s) (by omega) (by omega); omega
  · exact c
  · have := cube_mono (x := s + 1) (y := r) (by omega) (by omega); omega
theorem root_l0 (n : Int) (n1 : n < 18446744073709551616) : ∀ (j k : Nat) (lo hi : Int), j < k → 0 ≤ lo → lo < hi → hi ≤ 4194304 → hi - lo ≤ 2 ^ j → lo * lo * lo ≤ n → n < hi * hi * hi →
    ∃ r, cubic_Root.l0 k n lo hi = some r ∧ isRoot n r ∧ r < 4194304 := by
  intro j
  induction j with
  | zero =>
    intro k lo hi hk h0 h1 h2 h3 h4 h5
    obtain ⟨k, rfl⟩ : ∃ m, k = m + 1 := ⟨k - 1, by omega⟩
    simp only [cubic_Root.l0]
    simp only [Int.pow_zero] at h3
    obtain rfl : hi = lo + 1 := by omega
    rw [u64_id (by omega) (by omega), if_neg (by omega)]
    exact ⟨lo, rfl, ⟨h0, h4, h5⟩, by omega⟩
  | succ j ih =>
    intro k lo hi hk h0 h1 h2 h3 h4 h5
    obtain ⟨k, rfl⟩ : ∃ m, k = m + 1 := ⟨k - 1, by omega⟩
    simp only [cubic_Root.l0]
    rw [u64_id (x := hi - lo) (by omega) (by omega)]
    by_cases c : hi - lo > 1
    · rw [if_pos c, u64_id (x := lo + hi) (by omega) (by omega), tdiv_pos (by omega), u64_id (x := (lo + hi) / 2) (by omega) (by omega), cube_eq _ _ (by omega) (by omega) n1]
      simp only [Option.bind_some]
      rw [Int.pow_succ] at h3
      generalize (2 : Int) ^ j = p at *
      obtain ⟨m, hm⟩ : ∃ m, m = (lo + hi) / 2 := ⟨_, rfl⟩
      rw [← hm]
      by_cases d : m * m * m ≤ n
      · rw [if_pos (by simpa using d)]
        exact ih k m hi (by omega) (by omega) (by omega) h2 (by omega) d h5
      · rw [if_neg (by simpa using d)]
        exact ih k lo m (by omega) h0 (by omega) (by omega) (by omega) h4 (by omega)
    · rw [if_neg c]
      obtain rfl : hi = lo + 1 := by omega
      exact ⟨lo, rfl, ⟨h0, h4, h5⟩, by omega⟩
theorem root_ex (n : Int) (n0 : 0 ≤ n) (n1 : n < 18446744073709551616) (k : Nat) (hk : 30 ≤ k) : ∃ r, cubic_Root.f k n = some r ∧ isRoot n r ∧ r < 4194304 := by
  unfold cubic_Root.f
  exact root_l0 n n1 22 k 0 4194304 (by omega) (by omega) (by omega) (by omega) (by decide) (by omega) (by omega)
/-- The cube root, rounded down. -/
noncomputable def rootF (n : Int) : Int := Classical.epsilon (fun r => isRoot n r)
theorem rootF_spec {n r : Int} (h : isRoot n r) : rootF n = r :=
  root_unique (Classical.epsilon_spec (p := fun r => isRoot n r) ⟨r, h⟩) h
theorem root_eq (n : Int) (n0 : 0 ≤ n) (n1 : n < 18446744073709551616) (k : Nat) (hk : 30 ≤ k) : cubic_Root.f k n = some (rootF n) := by
  obtain ⟨r, h, hr, _⟩ := root_ex n n0 n1 k hk
  rw [h, rootF_spec hr]
theorem root_is (n : Int) (n0 : 0 ≤ n) (n1 : n < 18446744073709551616) : isRoot n (rootF n) ∧ rootF n < 4194304 := by
  obtain ⟨r, h, hr, hl⟩ := root_ex n n0 n1 30 (by omega)
  rw [rootF_spec hr]
  exact ⟨hr, hl⟩
theorem root_top {n : Int} (n0 : 0 ≤ n) (n1 : n < 18446744073709551616) : rootF n ≤ 2642245 := by
  obtain ⟨⟨h1, h2, h3⟩, h4⟩ := root_is n n0 n1
  rcases Int.lt_or_le 2642245 (rootF n) with c | c
  · have := cube_mono (x := 2642246) (y := rootF n) (by omega) (by omega); omega
  · exact c

/-! The reference's root, bit by bit. -/
theorem rroot_l0 (n : Int) (n0 : 0 ≤ n) (n1 : n < 18446744073709551616) : ∀ (j k : Nat) (r : Int), j + 1 < k → 0 ≤ r → r ≤ 2642245 → r * r * r ≤ n → r + 2 * 2 ^ j ≤ 4194304 → (2642245 < r + 2 * 2 ^ j ∨ n < (r + 2 * 2 ^ j) * (r + 2 * 2 ^ j) * (r + 2 * 2 ^ j)) →
    ∃ s, stopcockref21_Root.l0 k n r (2 ^ j) = some s ∧ isRoot n s := by
  intro j
  induction j with
  | zero =>
    intro k r hk h0 h1 h2 h3 h4
    obtain ⟨k, rfl⟩ : ∃ m, k = m + 1 + 1 := ⟨k - 2, by omega⟩
    simp only [Int.pow_zero, Int.mul_one] at *
    have top : ∀ s : Int, 0 ≤ s → s ≤ 2642245 → s * s * s ≤ n → (2642245 < s + 1 ∨ n < (s + 1) * (s + 1) * (s + 1)) → isRoot n s := by
      intro s s0 s1 s2 s3
      refine ⟨s0, s2, ?_⟩
      rcases s3 with s3 | s3
      · obtain rfl : s = 2642245 := by omega
        omega
      · exact s3
    have fin : ∀ s, stopcockref21_Root.l0 (k + 1) n s (1 / 2) = some s := by
      intro s
      simp only [stopcockref21_Root.l0]
      rw [if_neg (by decide)]
    simp only [stopcockref21_Root.l0] at fin ⊢
    rw [if_pos (by omega), u64_id (x := r + 1) (by omega) (by omega)]
    by_cases c : r + 1 ≤ 2642245
    · rw [if_pos c]
      have q0 : 0 ≤ (r + 1) * (r + 1) := Int.mul_nonneg (by omega) (by omega)
      have q1 : (r + 1) * (r + 1) ≤ 2642245 * 2642245 := Int.mul_le_mul c c (by omega) (by omega)
      have q2 : 0 ≤ (r + 1) * (r + 1) * (r + 1) := Int.mul_nonneg q0 (by omega)
      have q3 : (r + 1) * (r + 1) * (r + 1) ≤ 2642245 * 2642245 * 2642245 := Int.mul_le_mul q1 c (by omega) (by omega)
      rw [u64_id q0 (by omega), u64_id q2 (by omega)]
      by_cases d : (r + 1) * (r + 1) * (r + 1) ≤ n
      · rw [if_pos d]
        have := fin (r + 1)
        exact ⟨r + 1, this, top _ (by omega) c d (by rw [show r + 1 + 1 = r + 2 by omega]; exact h4)⟩
      · rw [if_neg d]
        exact ⟨r, fin r, top _ h0 h1 h2 (by omega)⟩
    · rw [if_neg c]
      exact ⟨r, fin r, top _ h0 h1 h2 (by omega)⟩
  | succ j ih =>
    intro k r hk h0 h1 h2 h3 h4
    obtain ⟨k, rfl⟩ : ∃ m, k = m + 1 := ⟨k - 1, by omega⟩
    have hp : (2 : Int) ^ (j + 1) = 2 * 2 ^ j := by rw [Int.pow_succ, Int.mul_comm]
    have hp0 : (0 : Int) < 2 ^ j := Int.pow_pos (by decide)
    have ih' := ih k
    rw [hp] at h3 h4 ⊢
    generalize (2 : Int) ^ j = p at *
    simp only [stopcockref21_Root.l0]
    rw [if_pos (by omega), u64_id (x := r + 2 * p) (by omega) (by omega), show 2 * p / 2 = p by omega]
    by_cases c : r + 2 * p ≤ 2642245
    · rw [if_pos c]
      have q0 : 0 ≤ (r + 2 * p) * (r + 2 * p) := Int.mul_nonneg (by omega) (by omega)
      have q1 : (r + 2 * p) * (r + 2 * p) ≤ 2642245 * 2642245 := Int.mul_le_mul c c (by omega) (by omega)
      have q2 : 0 ≤ (r + 2 * p) * (r + 2 * p) * (r + 2 * p) := Int.mul_nonneg q0 (by omega)
      have q3 : (r + 2 * p) * (r + 2 * p) * (r + 2 * p) ≤ 2642245 * 2642245 * 2642245 := Int.mul_le_mul q1 c (by omega) (by omega)
      rw [u64_id q0 (by omega), u64_id q2 (by omega)]
      by_cases d : (r + 2 * p) * (r + 2 * p) * (r + 2 * p) ≤ n
      · rw [if_pos d]
        refine ih' (r + 2 * p) (by omega) (by omega) c d (by omega) ?_
        rw [show r + 2 * p + 2 * p = r + 2 * (2 * p) by omega]; exact h4
      · rw [if_neg d]
        exact ih' r (by omega) h0 h1 h2 (by omega) (Or.inr (by omega))
    · rw [if_neg c]
      exact ih' r (by omega) h0 h1 h2 (by omega) (Or.inl (by omega))
theorem rroot_eq (n : Int) (n0 : 0 ≤ n) (n1 : n < 18446744073709551616) (k : Nat) (hk : 30 ≤ k) : stopcockref21_Root.f k n = some (rootF n) := by
  unfold stopcockref21_Root.f
  obtain ⟨s, h, hs⟩ := rroot_l0 n n0 n1 21 k 0 (by omega) (by omega) (by omega) (by omega) (by decide) (Or.inl (by decide))
  rw [rootF_spec hs]
  have e : (2 : Int) ^ 21 = 2097152 := by decide
  rw [e] at h
  exact h

/-! The curve. -/
theorem abs_mul {a b A B : Int} (h1 : -A ≤ a) (h2 : a ≤ A) (h3 : -B ≤ b) (h4 : b ≤ B) : -(A * B) ≤ a * b ∧ a * b ≤ A * B := by
  have ha : a.natAbs ≤ A.toNat := by omega
  have hb : b.natAbs ≤ B.toNat := by omega
  have h := Nat.mul_le_mul ha hb
  rw [← Int.natAbs_mul] at h
  have e : ((A.toNat * B.toNat : Nat) : Int) = A * B := by rw [Int.natCast_mul, Int.toNat_of_nonneg (by omega), Int.toNat_of_nonneg (by omega)]
  omega
def clampF (d : Int) : Int := mn (mx d (-30000)) 30000
theorem clampF_bd (d : Int) : -30000 ≤ clampF d ∧ clampF d ≤ 30000 := by unfold clampF mn mx; split <;> split <;> omega
theorem clampF_ref (d : Int) : mx (-30000) (mn 30000 d) = clampF d := by
  have h1 := mn_or 30000 d; have h2 := mx_or (-30000) (mn 30000 d); have h3 := mx_or d (-30000); have h4 := mn_or (mx d (-30000)) 30000
  unfold clampF; omega
theorem clampF_id {d : Int} (h0 : -30000 ≤ d) (h1 : d ≤ 30000) : clampF d = d := by unfold clampF mn mx; split <;> split <;> omega
theorem clampF_mono {d e : Int} (h : d ≤ e) : clampF d ≤ clampF e := by
  have h1 := mx_or d (-30000); have h2 := mn_or (mx d (-30000)) 30000; have h3 := mx_or e (-30000); have h4 := mn_or (mx e (-30000)) 30000
  unfold clampF; omega
def riseF (m d : Int) : Int := 4 * m * clampF d * clampF d * clampF d
def curveF (a m d : Int) : Int := mx 0 (mn (a + riseF m d / 10737418240) 1073741824)
theorem rise_bd {m d : Int} (m0 : 1 ≤ m) (m1 : m ≤ 65535) : -7864200000 ≤ 4 * m * clampF d ∧ 4 * m * clampF d ≤ 7864200000 ∧ -235926000000000 ≤ 4 * m * clampF d * clampF d ∧ 4 * m * clampF d * clampF d ≤ 235926000000000 ∧
    -7077780000000000000 ≤ riseF m d ∧ riseF m d ≤ 7077780000000000000 := by
  obtain ⟨c0, c1⟩ := clampF_bd d
  have h1 := abs_mul (a := 4 * m) (A := 262140) (by omega) (by omega) c0 c1
  have h2 := abs_mul (A := 7864200000) (by omega) (by omega) c0 c1 (a := 4 * m * clampF d)
  have h3 := abs_mul (A := 235926000000000) (by omega) (by omega) c0 c1 (a := 4 * m * clampF d * clampF d)
  unfold riseF
  omega
theorem clamp3 (n : Int) : mn (mx n 0) 1073741824 = mx 0 (mn n 1073741824) := by
  have h1 := mx_or n 0; have h2 := mn_or (mx n 0) 1073741824; have h3 := mn_or n 1073741824; have h4 := mx_or 0 (mn n 1073741824)
  omega
end Go.Proofs.Ytolgfodpkeopgaa.PureC
