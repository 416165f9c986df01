-- Written by a program of this session (wip/tools/mkprint.py, mp.sh) for this claim.
import Derived.Test.YtolgfodpkeopgaaPCx0
import Derived.Test.YtolgfodpkeopgaaPCx3
namespace Go.Proofs.Ytolgfodpkeopgaa.PC
open Go.RowKit Go.Proofs.YtolgfodpkeopgaaW.PrintWords Go.Proofs.YtolgfodpkeopgaaW.PrintLast Go.Proofs.YtolgfodpkeopgaaW.PrintMore
attribute [local go_sem] max2_int min2_int max_two min_two max_three min_three max_four min_four   -- for this text's walks alone
set_option linter.unusedVariables false
set_option linter.unusedSimpArgs false

/-! ### cubic_turn: function 30 -/
def cubic_turn.f (k : Nat) (a0 : Int) (a1 : Int) (a2 : Int) : Option (Int) := if a1 ≥ a0 then (some 0) else (if (IntKind.u64.wrap (wrap64 (4 * a2))) = 0 then (none) else ((cubic_Root.f k (IntKind.u64.wrap (Int.tdiv (IntKind.u64.wrap ((IntKind.u64.wrap (wrap64 (a0 - a1))) * 10737418240)) (IntKind.u64.wrap (wrap64 (4 * a2)))))).bind fun t120 => (some (wrap64 (t120)))))
theorem cubic_turn.mono : ∀ a0 a1 a2 k, LeO (cubic_turn.f k a0 a1 a2) (cubic_turn.f (k + 1) a0 a1 a2) := by
  intro a0 a1 a2 k
  unfold cubic_turn.f
  repeat' first
      | (with_reducible exact cubic_Root.mono _ _)
      | (with_reducible exact LeO.refl _)
      | (with_reducible exact LeO.none _)
      | (with_reducible refine LeO.ite ?_ ?_)
      | (with_reducible refine LeO.bind ?_ (fun _ => ?_))
      | exact cubic_Root.mono _ _
      | exact LeO.none _
      | refine LeO.ite ?_ ?_
      | refine LeO.bind ?_ (fun _ => ?_)
set_option maxHeartbeats 8000000 in
set_option maxRecDepth 100000 in
theorem cubic_turn.calls (k : Nat) (a0 : Int) (a1 : Int) (a2 : Int) (r : Int) (w : World) (h : cubic_turn.f k a0 a1 a2 = some r) :
    Calls Try.prog 30 #[.int .i64 a0, .int .i64 a1, .int .i64 a2] w fun e w' => e = .returned (.int .i64 r) ∧ Drawn0 w w' := by
  have H : (if a1 ≥ a0 then (some 0) else (if (IntKind.u64.wrap (wrap64 (4 * a2))) = 0 then (none) else ((cubic_Root.f k (IntKind.u64.wrap (Int.tdiv (IntKind.u64.wrap ((IntKind.u64.wrap (wrap64 (a0 - a1))) * 10737418240)) (IntKind.u64.wrap (wrap64 (4 * a2)))))).bind fun t120 => (some (wrap64 (t120)))))) = some r := h
  clear h
  by_cases c4 : a1 ≥ a0
  · rw [if_pos c4] at H
    have c4b0 : decide (a0 ≤ a1) = true := decide_eq_true c4
    clear c4
    obtain rfl := Option.some.inj H
    go_enter Try.func30, Try.ntmps30
    go_wp2
    go_ret
    exact ⟨by first | rfl | (simp; done) | (simp [*]; done), by repeat (first | exact Drawn0.refl _ | apply Drawn0.step)⟩
  · rw [if_neg c4] at H
    have c4b0 : decide (a0 ≤ a1) = false := decide_eq_false c4
    clear c4
    by_cases c5 : (IntKind.u64.wrap (wrap64 (4 * a2))) = 0
    · rw [if_pos c5] at H
      exact absurd H (by simp)
    · rw [if_neg c5] at H
      have c5b0 : ((IntKind.u64.wrap (wrap64 (4 * a2))) == 0) = false := beq_eq_false_iff_ne.mpr c5
      have c5b1 : ((IntKind.u64.wrap (wrap64 (4 * a2))) != 0) = true := bne_iff_ne.mpr c5
      replace H := Option.bind_eq_some_iff.mp H
      obtain ⟨t120, A60, H⟩ := H
      replace H : (some (wrap64 (t120))) = some r := H
      have A6 := Aside0.mk A60
      clear A60
      obtain rfl := Option.some.inj H
      go_enter Try.func30, Try.ntmps30
      go_wp2_with (first | ((with_reducible refine gate_callee (f := 8) rfl ?_); refine goesL_ (some 19) rfl rfl Try.func8 (by kernel_rfl) rfl #[.int .u64 (IntKind.u64.wrap (Int.tdiv (IntKind.u64.wrap ((IntKind.u64.wrap (wrap64 (a0 - a1))) * 10737418240)) (IntKind.u64.wrap (wrap64 (4 * a2)))))] rfl (by (try simp only [List.map_toArray, List.map_cons, List.map_nil]); first | done | rfl | (simp only [List.length_drop, List.length_take]; rfl)) ?_; (with_reducible refine (cubic_Root.calls k (IntKind.u64.wrap (Int.tdiv (IntKind.u64.wrap ((IntKind.u64.wrap (wrap64 (a0 - a1))) * 10737418240)) (IntKind.u64.wrap (wrap64 (4 * a2))))) t120 _ A6.out).mono ?_); rintro e w' ⟨rfl, ⟨nd, rfl⟩⟩; refine ⟨_, rfl, ?_⟩))
      go_ret
      exact ⟨by first | rfl | (simp; done) | (simp [*]; done), by repeat (first | exact Drawn0.refl _ | apply Drawn0.step)⟩

end Go.Proofs.Ytolgfodpkeopgaa.PC
