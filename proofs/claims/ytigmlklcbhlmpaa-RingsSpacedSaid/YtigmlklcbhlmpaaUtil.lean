/- Small lemmas on whole numbers and lists, for the pure proofs of this seat. -/
import Derived.Test.YtigmlklcbhlmpaaWWords
import Derived.Test.YtigmlklcbhlmpaaWMore
import Derived.WalkKit
namespace Go.Proofs.Ytigmlklcbhlmpaa.Util
open Go.RowKit Go.Proofs.YtigmlklcbhlmpaaW.PrintWords Go.Proofs.YtigmlklcbhlmpaaW.PrintMore

theorem ite_to {α : Type} {c : Prop} [Decidable c] {a b r : α} (h : c → a = r) (k : ¬ c → b = r) : (if c then a else b) = r := by
  by_cases x : c
  · rw [if_pos x]; exact h x
  · rw [if_neg x]; exact k x
theorem wrap_id {x : Int} (h0 : -9223372036854775808 ≤ x) (h1 : x ≤ 9223372036854775807) : wrap64 x = x := by
  unfold wrap64; omega
theorem up_div (x b : Int) (hb : 1 ≤ b) : (x + b - 1) / b = if x / b * b < x then x / b + 1 else x / b := by
  have h1 := Int.mul_ediv_add_emod x b
  have h2 := Int.emod_nonneg x (by omega : b ≠ 0)
  have h3 := Int.emod_lt_of_pos x (by omega : 0 < b)
  generalize x / b = q at *
  generalize x % b = r at *
  have hc : b * q = q * b := Int.mul_comm b q
  by_cases h : q * b < x
  · rw [if_pos h]
    have e : x + b - 1 = (r - 1) + b * (q + 1) := by rw [Int.mul_add, Int.mul_one]; omega
    rw [e, Int.add_mul_ediv_left _ _ (by omega), Int.ediv_eq_zero_of_lt (by omega) (by omega)]
    omega
  · rw [if_neg h]
    have e : x + b - 1 = (b - 1) + b * q := by omega
    rw [e, Int.add_mul_ediv_left _ _ (by omega), Int.ediv_eq_zero_of_lt (by omega) (by omega)]
    omega
theorem tmod_bd (a m : Int) (h : 0 < m) : -m < Int.tmod a m ∧ Int.tmod a m < m := ⟨Int.lt_tmod_of_pos a h, Int.tmod_lt_of_pos a h⟩
theorem wf64 {x : Int} (h : (Lit.int .i64 x).wf = true) : -9223372036854775808 ≤ x ∧ x ≤ 9223372036854775807 := by
  simp [Lit.wf, IntKind.min, IntKind.max, IntKind.bits, IntKind.signed] at h
  omega
/-- Go's '(a % m + m) % m'. -/
theorem gomod (a m : Int) (h : 0 < m) (h2 : m ≤ 4000000000000000000) : ∃ r, Int.tmod (wrap64 (Int.tmod a m + m)) m = r ∧ 0 ≤ r ∧ r < m := by
  have hb := tmod_bd a m h
  rw [wrap_id (by omega) (by omega)]
  exact ⟨_, rfl, Int.tmod_nonneg _ (by omega), Int.tmod_lt_of_pos _ h⟩
theorem tdiv_pos {a b : Int} (h : 0 ≤ a) : Int.tdiv a b = a / b := Int.tdiv_eq_ediv_of_nonneg h
theorem tmod_pos {a b : Int} (h : 0 ≤ a) : Int.tmod a b = a % b := Int.tmod_eq_emod_of_nonneg h
theorem getD_append_left (xs ys : List Int) (k : Nat) (d : Int) (h : k < xs.length) : (xs ++ ys).getD k d = xs.getD k d := by
  simp [List.getD, List.getElem?_append_left h]
theorem getD_append_last (xs : List Int) (y d : Int) : (xs ++ [y]).getD xs.length d = y := by
  simp [List.getD]
theorem getD_eq (xs : List Int) (k : Nat) (d : Int) (h : k < xs.length) : xs.getD k d = xs[k] := by
  simp [List.getD, h]
theorem ediv_lo {a b : Int} (h : 0 ≤ a) (hb : 0 ≤ b) : 0 ≤ a / b := Int.ediv_nonneg h hb
theorem ediv_hi {a b : Int} (h : 0 ≤ a) : a / b ≤ a := Int.ediv_le_self _ h
/-- One round of a loop, once there are rounds enough. -/
theorem evStep {α : Type} {g f : Nat → Option α} {r : α} (K : Nat) (h : ∀ k, K ≤ k → g (k + 1) = f k) (e : Ev f r) : Ev g r := by
  obtain ⟨K', e⟩ := e
  refine ⟨max K K' + 1, fun n hn => ?_⟩
  obtain ⟨m, rfl⟩ : ∃ m, n = m + 1 := ⟨n - 1, by omega⟩
  rw [h m (by omega)]
  exact e m (by omega)
/-- The same, without a round. -/
theorem evSame {α : Type} {g f : Nat → Option α} {r : α} (K : Nat) (h : ∀ k, K ≤ k → g k = f k) (e : Ev f r) : Ev g r := by
  obtain ⟨K', e⟩ := e
  refine ⟨max K K', fun n hn => ?_⟩
  rw [h n (by omega)]
  exact e n (by omega)
theorem evEnd {α : Type} {g : Nat → Option α} {r : α} (K : Nat) (h : ∀ k, K ≤ k → g k = some r) : Ev g r := ⟨K, h⟩
theorem pow_pos' (n : Nat) : (0 : Int) < 2 ^ n := Int.pow_pos (by decide)
theorem shl_val {x b : Int} (h0 : 0 ≤ x) (h1 : x * 2 ^ b.toNat ≤ 9223372036854775807) (hb : b.toNat ≤ 64) : shl .i64 x b = x * 2 ^ b.toNat := by
  unfold shl
  have e : min b.toNat IntKind.i64.bits = b.toNat := by simp [IntKind.bits]; omega
  rw [e]
  have hw : ∀ n, IntKind.i64.wrap n = wrap64 n := fun n => by unfold wrap64; exact IntKind.wrap_i64 n
  rw [hw]
  exact wrap_id (by have := Int.mul_nonneg h0 (Int.le_of_lt (pow_pos' b.toNat)); omega) h1
theorem mn_or (a b : Int) : (mn a b = a ∧ a ≤ b) ∨ (mn a b = b ∧ b ≤ a) := by unfold mn; split <;> omega
theorem mx_or (a b : Int) : (mx a b = a ∧ b ≤ a) ∨ (mx a b = b ∧ a ≤ b) := by unfold mx; split <;> omega
theorem if_true_eq {α : Type} (a b : α) : (if True then a else b) = a := if_pos trivial
end Go.Proofs.Ytigmlklcbhlmpaa.Util
