/- The contract of bbr's gain: by hand (an array value that is looked into). -/
import Derived.Test.YtodlibmnmjopbaaHandA
namespace Go.Proofs.Ytodlibmnmjopbaa.Hand
open Go.RowKit Go.Proofs.YtodlibmnmjopbaaW.PrintWords Go.Proofs.YtodlibmnmjopbaaW.PrintLast Go.Proofs.YtodlibmnmjopbaaW.PrintMore Go.Proofs.Ytodlibmnmjopbaa.PA
set_option linter.unusedVariables false
set_option linter.unusedSimpArgs false
attribute [local go_sem] Oper.semAt_some

def cyc (cy : Int) : Int := if cy = 0 then 320 else if cy = 1 then 192 else 256
def gainF (ph cy : Int) : Option Int := if ph = 0 then some 739 else if ph = 1 then some 88 else if ph = 2 then (if 0 ≤ cy ∧ cy ≤ 7 then some (cyc cy) else none) else some 256
theorem index75 (cy : Int) (h0 : 0 ≤ cy) (h1 : cy ≤ 7) (W : World) : (Instr.index 75 (.agg #[.int .i64 320, .int .i64 192, .int .i64 256, .int .i64 256, .int .i64 256, .int .i64 256, .int .i64 256, .int .i64 256]) (.int .i64 cy)).run Try.prog W = .ok (.int .i64 (cyc cy)) W := by
  have hi3 : (Try.prog.info? 3).map (·.size) = some 1 := by kernel_rfl
  obtain ⟨t, ht, hz⟩ := Option.map_eq_some_iff.1 hi3
  have : cy = 0 ∨ cy = 1 ∨ cy = 2 ∨ cy = 3 ∨ cy = 4 ∨ cy = 5 ∨ cy = 6 ∨ cy = 7 := by omega
  rcases this with rfl | rfl | rfl | rfl | rfl | rfl | rfl | rfl <;>
  simp [Instr.index, asIntOf, run_underlying Try.underlying75, sizeOf, typeInfo, ht, hz, part, isAgg, run_underlying Try.underlying3, cyc]
set_option maxHeartbeats 2000000 in
set_option maxRecDepth 100000 in
theorem gain_calls (a0_0 : Int) (A0_1 : Option Addr) (c0_1 : Nat) (l0_1 : List (S36)) (a0_2 : Bool) (a0_3 : Int) (a0_4 : Int) (a0_5 : Bool) (a0_6 : Int) (a0_7 : Int) (a0_8 : Int) (a0_9 : Int) (a0_10 : Int) (a0_11 : Int) (r : Int) (w : World) (hr0_1 : Kd.C k36 w A0_1 l0_1.length l0_1) (hc0_1 : l0_1.length ≤ c0_1) (h : gainF a0_0 a0_8 = some r) :
    Calls Try.prog 38 #[.agg #[.int .i64 a0_0, .slice A0_1 l0_1.length c0_1, .bool a0_2, .int .i64 a0_3, .int .i64 a0_4, .bool a0_5, .int .i64 a0_6, .int .i64 a0_7, .int .i64 a0_8, .int .i64 a0_9, .int .i64 a0_10, .int .i64 a0_11]] w fun e w' => e = .returned (.int .i64 r) ∧ Below w.heap.size w w' := by
  unfold gainF at h
  clear hr0_1
  by_cases h0 : a0_0 = 0
  · rw [if_pos h0] at h
    obtain rfl := Option.some.inj h
    go_enter Try.func38, Try.ntmps38
    go_wp2
    go_ret
    exact ⟨rfl, below_alloc (Below.refl _ _) _⟩
  · rw [if_neg h0] at h
    by_cases h1 : a0_0 = 1
    · rw [if_pos h1] at h
      obtain rfl := Option.some.inj h
      go_enter Try.func38, Try.ntmps38
      go_wp2
      go_ret
      exact ⟨rfl, below_alloc (Below.refl _ _) _⟩
    · rw [if_neg h1] at h
      by_cases h2 : a0_0 = 2
      · rw [if_pos h2] at h
        by_cases hc : 0 ≤ a0_8 ∧ a0_8 ≤ 7
        · rw [if_pos hc] at h
          obtain rfl := Option.some.inj h
          have hix := fun W => index75 a0_8 hc.1 hc.2 W
          go_enter Try.func38, Try.ntmps38
          go_wp2
          go_ret
          exact ⟨rfl, below_alloc (Below.refl _ _) _⟩
        · rw [if_neg hc] at h
          exact absurd h (by simp)
      · rw [if_neg h2] at h
        obtain rfl := Option.some.inj h
        go_enter Try.func38, Try.ntmps38
        go_wp2
        go_ret
        exact ⟨rfl, below_alloc (Below.refl _ _) _⟩
end Go.Proofs.Ytodlibmnmjopbaa.Hand
