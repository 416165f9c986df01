/- The contract of octets.Put: what it computes, by hand (a slice is made with a capacity of its own). -/
import Derived.Test.YtpadboidkpembaaHandR
import Derived.Laws.MakeOwn
import Derived.RangeFuncBox
namespace Go.Proofs.Ytpadboidkpembaa.Hand
open Go.RowKit Go.Proofs.YtpadboidkpembaaW.PrintWords Go.Proofs.YtpadboidkpembaaW.PrintLast Go.Proofs.YtpadboidkpembaaW.PrintMore
set_option linter.unusedVariables false
set_option linter.unusedSimpArgs false

/-- The lowest octets of a number, the lowest first. -/
def lows (n : Int) : Nat → List Int
  | 0 => []
  | k + 1 => lows n k ++ [n / 256 ^ k % 256]
theorem lows_len (n : Int) : ∀ k, (lows n k).length = k
  | 0 => rfl
  | k + 1 => by simp [lows, lows_len n k]
theorem div_step (n : Int) (k : Nat) : n / 256 ^ k / 256 = n / 256 ^ (k + 1) := by
  rw [Int.pow_succ, Int.ediv_ediv_of_nonneg (Int.pow_nonneg (by decide))]
theorem div_bd (n : Int) (h0 : 0 ≤ n) (k : Nat) : 0 ≤ n / 256 ^ k ∧ n / 256 ^ k ≤ n := ⟨Int.ediv_nonneg h0 (Int.pow_nonneg (by decide)), Int.ediv_le_self _ h0⟩
def putF (n s : Int) : Option (List Int × Int) :=
  if 0 ≤ n ∧ n < 18446744073709551616 then
    if 1 ≤ s ∧ s ≤ 8 then (if n / 256 ^ s.toNat = 0 then some ((lows n s.toNat).reverse, 0) else some ([], 4)) else some ([], 4)
  else none
set_option maxHeartbeats 4000000 in
set_option maxRecDepth 100000 in
theorem put_range (n s : Int) (w : World) (h : s < 1 ∨ (1 ≤ s ∧ 8 < s)) :
    Calls Try.prog 7 #[.int .u64 n, .int .i64 s] w fun e w' => e = .returned (.tuple #[.slice none 0 0, .int .i64 4]) ∧ w = w' := by
  rcases h with h | ⟨h, h2⟩
  all_goals
    go_enter Try.func7, Try.ntmps7
    go_wp2
    go_ret2
    exact ⟨rfl, rfl⟩
def putPost (n : Int) (s : Nat) (w : World) (e : Ending) (w' : World) : Prop :=
  ∃ v, e = .returned (.tuple #[v, .int .i64 (if n / 256 ^ s = 0 then 0 else 4)]) ∧ Kd.R (Kd.int .u8) 5 w' w.heap.size (fun _ => True) v (if n / 256 ^ s = 0 then (lows n s).reverse else []) ∧ Below w.heap.size w w'
set_option maxHeartbeats 4000000 in
set_option maxRecDepth 100000 in
theorem put_main (n : Int) (s : Nat) (w : World) (h0 : 0 ≤ n) (h1 : n < 18446744073709551616) (h2 : 1 ≤ s) (h3 : s ≤ 8) :
    Calls Try.prog 7 #[.int .u64 n, .int .i64 (s : Int)] w (putPost n s w) := by
  obtain ⟨i0, hi, hz0, hz1, hz2⟩ := info_parts info5
  obtain ⟨w1, hmk, hown, hgr⟩ := run_make_own (P := Try.prog) w w.heap.size 24 5 i0 (.int .u8 0) 1 Try.underlying24 hi hz0 hz1 .i64 .i64 s (by rw [hz2]; omega) (by unfold maxLen; omega) (Nat.le_refl _)
  have HO0 : Aside0 (Kd.R (Kd.int .u8) 5 w1 w.heap.size (fun _ => True) (.slice (some ⟨w.heap.size, 0, none⟩) 0 s) []) := ⟨Kd.R_of_own (by simpa [encs] using hown) (fun _ _ => trivial)⟩
  have HB0 : Aside0 (Below w.heap.size w w1) := ⟨(Below.refl _ w).grown hgr (Nat.le_refl _) (fun k e => by cases e)⟩
  clear hown hgr hi hz0 hz1 hz2
  go_enter Try.func7, Try.ntmps7
  go_wp2
  clear hmk
  go_loopw [0, 6, 16] (fun q v i wr => ∃ k : Nat, k ≤ s ∧ i = .int .i64 (k : Nat) ∧ q = .int .u64 (n / 256 ^ k) ∧ Kd.R (Kd.int .u8) 5 wr w.heap.size (fun _ => True) v (lows n k) ∧ Below w.heap.size w wr) (fun _ _ i _ => s - (intOf i).toNat)
  case atStart => exact ⟨0, Nat.zero_le _, rfl, by simp, HO0.out, HB0.out⟩
  case round =>
    obtain ⟨k, hk, rfl, rfl, hR, hB⟩ := hrel
    have HR := Aside0.mk hR
    have HB := Aside0.mk hB
    have hbd := div_bd n h0 k
    have hst := Aside0.mk (div_step n k)
    clear hR hB
    obtain ⟨q, hq⟩ : ∃ q, n / 256 ^ k = q := ⟨_, rfl⟩
    rw [hq] at hbd hst ⊢
    have HQ := Aside0.mk hq
    obtain ⟨hb1, hb2⟩ := hbd
    clear hq
    by_cases hlt : k < s
    · go_wp2_with (at_builtin; go_loud (refine Kd.R_append_row (Value.int .u8) (0 : Int) (h1 := fun _ => rfl) (w0 := w) w.heap.size rfl _ _ 24 5 (.int .u8 0) 1 rfl Try.underlying24 info5 rfl (by decide) _ (lows n k) [q % 256] _ 1 1 (fun _ => True) rfl rfl (fun _ _ => trivial) (Kd.R_alloc HR.out _) (c_new .u8 wr [q % 256] 5 1 rfl (by simp)) (below_alloc HB.out _) (by have := below_size HB.out; simp; omega) (by rw [lows_len]; omega) ?_); intro v' w2 ho hb _ _)
      go_roundw
      case rel => exact ⟨k + 1, by omega, by go_num, by rw [← hst.out], by rw [lows, HQ.out]; exact ho, hb⟩
      case measure => simp [intOf]; omega
    · obtain rfl : k = s := by omega
      by_cases hz : q = 0
      · have hz2 : decide (0 < q) = false := decide_eq_false (by omega)
        obtain ⟨g, c, hv⟩ : ∃ g c, u6 = .slice (some ⟨g, 0, none⟩) k c := by
          obtain ⟨m, rfl⟩ : ∃ m, k = m + 1 := ⟨k - 1, by omega⟩
          have h2 := Kd.own_of_R HR.out
          rw [lows_len] at h2
          exact ownsRow_succ h2
        subst hv
        have hgb : w.heap.size ≤ g := own_base (Kd.own_of_R HR.out) g rfl
        have HZ := Aside0.mk hz
        clear hz
        go_wp2_with (go_at_call 23; refine (rev_calls w.heap.size g c k (fun _ => True) (lows n k) _ (lows_len n k) (by omega) HR.out).mono ?_; rintro e w3 ⟨rfl, hr3, hg3⟩)
        go_ret2
        have hq0 : n / 256 ^ k = 0 := HQ.out.trans HZ.out
        refine ⟨.slice (some ⟨g, 0, none⟩) k c, (by rw [if_pos hq0]; rfl), by rw [if_pos hq0]; exact hr3, HB.out.grown hg3 (below_size HB.out) (fun j e => by cases e; exact hgb)⟩
      · have hz2 : decide (0 < q) = true := decide_eq_true (by omega)
        have HZ := Aside0.mk hz
        clear hz
        go_wp2
        go_ret2
        have hq0 : ¬ n / 256 ^ k = 0 := fun e => HZ.out (HQ.out.symm.trans e)
        refine ⟨.slice none 0 0, (by rw [if_neg hq0]; rfl), by rw [if_neg hq0]; exact Kd.R_nil _ _ _ _ _, HB.out⟩
theorem put_calls (n s : Int) (r1 : List Int) (r2 : Int) (w : World) (h : putF n s = some (r1, r2)) :
    Calls Try.prog 7 #[.int .u64 n, .int .i64 s] w fun e w' => ∃ v0_ : Value, e = .returned (.tuple #[v0_, .int .i64 r2]) ∧ Kd.R (Kd.int .u8) 5 w' w.heap.size (fun _ => True) v0_ r1 ∧ Below w.heap.size w w' := by
  unfold putF at h
  by_cases hn : 0 ≤ n ∧ n < 18446744073709551616
  · rw [if_pos hn] at h
    by_cases hs : 1 ≤ s ∧ s ≤ 8
    · rw [if_pos hs] at h
      have hm := put_main n s.toNat w hn.1 hn.2 (by omega) (by omega)
      rw [Int.toNat_of_nonneg (by omega)] at hm
      refine hm.mono ?_
      rintro e w' ⟨v, rfl, hR, hB⟩
      by_cases hq : n / 256 ^ s.toNat = 0
      · rw [if_pos hq] at h hR ⊢
        simp only [Option.some.injEq, Prod.mk.injEq] at h
        obtain ⟨rfl, rfl⟩ := h
        exact ⟨v, rfl, hR, hB⟩
      · rw [if_neg hq] at h hR ⊢
        simp only [Option.some.injEq, Prod.mk.injEq] at h
        obtain ⟨rfl, rfl⟩ := h
        exact ⟨v, rfl, hR, hB⟩
    · rw [if_neg hs] at h
      simp only [Option.some.injEq, Prod.mk.injEq] at h
      obtain ⟨rfl, rfl⟩ := h
      refine (put_range n s w (by omega)).mono ?_
      rintro e w' ⟨rfl, rfl⟩
      exact ⟨_, rfl, Kd.R_nil _ _ _ _ _, Below.refl _ _⟩
  · rw [if_neg hn] at h
    exact absurd h (by simp)
end Go.Proofs.Ytpadboidkpembaa.Hand
