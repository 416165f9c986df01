-- Written by a program of this session (wip/tools/mkprint.py, mp.sh) for this claim.
import Derived.Test.YthfhljdegbcpmaaPAx0
namespace Go.Proofs.Ythfhljdegbcpmaa.PA
open Go.RowKit Go.Proofs.YthfhljdegbcpmaaW.PrintWords Go.Proofs.YthfhljdegbcpmaaW.PrintLast Go.Proofs.YthfhljdegbcpmaaW.PrintMore
attribute [local go_sem] max2_int min2_int max_two min_two max_three min_three max_four min_four   -- for this text's walks alone
set_option linter.unusedVariables false
set_option linter.unusedSimpArgs false

/-! ### stopcockref03_head: function 24 -/
def stopcockref03_head.f  : Option (List Int) := some (([0, 1, 8, 0, 6, 4, 0] : List Int))
set_option maxHeartbeats 8000000 in
set_option maxRecDepth 100000 in
theorem stopcockref03_head.calls  (r : List Int) (w : World) (h : stopcockref03_head.f  = some r) :
    Calls Try.prog 24 #[] w fun e w' => ∃ v0_ : Value, e = .returned (v0_) ∧ Kd.R (Kd.int .u8) 5 w' w.heap.size (fun _ => True) v0_ r ∧ Below w.heap.size w w' := by
  have HB := Aside0.mk (Below.refl w.heap.size w); have H : (some (([0, 1, 8, 0, 6, 4, 0] : List Int))) = some r := h; clear h; obtain ⟨y197, hy197⟩ : ∃ y_ : List Int, y_ = (([0, 1, 8, 0, 6, 4, 0] : List Int)) := ⟨_, rfl⟩; replace H : (some y197) = some r := by first | (rw [hy197]; with_reducible exact H) | (have H2_ := (Option.bind_some _ _).symm.trans H; rw [hy197]; with_reducible exact H2_) | (have H2_ := (Option.bind_some _ _).symm.trans H; with_reducible exact H2_) | with_reducible exact H | (rw [hy197]; exact H) | exact H
  have Ny197 := Aside0.mk hy197; clear hy197; obtain rfl := Option.some.inj H
  go_enter Try.func24, Try.ntmps24
  go_wp2_with (first | ((with_reducible refine gate_dst (N := 1) rfl ?_); refine Kd.R_lit (Kd.int .u8) _ 5 ?hg (N := 1) ?hd (xs := ([0, 1, 8, 0, 6, 4, 0] : List Int)) (inner := [.int .u8 0, .int .u8 1, .int .u8 8, .int .u8 0, .int .u8 6, .int .u8 4, .int .u8 0]) (ok := fun _ => True) (okp := fun _ => True) ?hr ?hp (fun _ hk => hk) trivial (Below.refl _ _) (Nat.le_refl _) (by simp) ?_; (case hd => rfl); (case hg => rfl); (case hr => first | (go_simp; done) | (go_simp; rfl)); (case hp => exact (Reps.one (show Kd.M (Kd.int .u8) _ _ _ 0 [.int .u8 0] from rfl) (Reps.one (show Kd.M (Kd.int .u8) _ _ _ 1 [.int .u8 1] from rfl) (Reps.one (show Kd.M (Kd.int .u8) _ _ _ 8 [.int .u8 8] from rfl) (Reps.one (show Kd.M (Kd.int .u8) _ _ _ 0 [.int .u8 0] from rfl) (Reps.one (show Kd.M (Kd.int .u8) _ _ _ 6 [.int .u8 6] from rfl) (Reps.one (show Kd.M (Kd.int .u8) _ _ _ 4 [.int .u8 4] from rfl) (Reps.one (show Kd.M (Kd.int .u8) _ _ _ 0 [.int .u8 0] from rfl) (Reps.none _ _))))))))); intro v198 w1 ho2 hb hg_ hnew_; clear hg_ hnew_; (first | rw [← Ny197.out] at ho2 | (simp only [Int.reduceToNat] at ho2; rw [← Ny197.out] at ho2)); have n0_ := Aside0.mk (Kd.R_lower ho2 (below_size (bel0 HB.out))); have n1_ := Aside0.mk (below_step (bel0 HB.out) hb); clear HB; have HO199 := n0_; have HB := n1_; clear n0_ n1_; clear hb ho2))
  go_ret
  exact ⟨_, by first | rfl | (simp [errW_none, errW_some] <;> rfl) | (simp [*, errW_none, errW_some] <;> rfl), by (with_reducible repeat (first | apply Kd.R_alloc | apply Kd.R_drewN | apply Kd.R_drew)); exact HO199.out, by exact bel0 HB.out⟩

end Go.Proofs.Ythfhljdegbcpmaa.PA
