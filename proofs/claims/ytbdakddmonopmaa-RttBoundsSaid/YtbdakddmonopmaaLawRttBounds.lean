-- Written by a program of this session (wip/tools/mkprint.py, mp.sh) for this claim.
import Derived.Test.YtbdakddmonopmaaRows
import Derived.Test.YtbdakddmonopmaaPAx6
import Derived.Test.YtbdakddmonopmaaPureRttBounds
import Derived.Test.YtbdakddmonopmaaOpen
import Derived.WalkKit
import Derived.ProofKit
import Derived.OpenShut
import Derived.ShutString
import Derived.ChangeOld
import Derived.Below
import Derived.SizedLaws
namespace Go.Proofs.Ytbdakddmonopmaa.rttBounds
open Go.ChangeShapes Go.WideShapes Go.ChangeAt Go.RowKit Go.Proofs.YtbdakddmonopmaaW.PrintWords Go.Proofs.Ytbdakddmonopmaa.PA
open Go.ChangeMaps (open_string shut_string)
set_option linter.unusedVariables false
set_option linter.unusedSimpArgs false
theorem own : ownKnob Try.prog.godebug = none := by kernel_rfl
theorem laidOut : laidOutB Try.prog = true := by kernel_rfl
set_option maxRecDepth 100000 in
theorem lifted (os : Os) (started : os.Started) (H : Type) (enc : TypeId × Value → H) :
    ReturnsInHanded {} Try.checked os 5 .any (Rows.rttBoundsSpec.pre6 enc Try.prog Try.f5 Rows.rttBoundsRow.domain false) (Rows.rttBoundsSpec.post enc Try.prog Try.f5 false true false false) := by
  refine returnsInHanded_of_change_sized (C := Try.checked) own started (by kernel_rfl) Try.func5
    (ChangeSpec.witness6 (enc := enc) (C := Try.checked) false ⟨#[], #[.agg #[.int .i64 0, .int .i64 0, .int .i64 0, .int .i64 0], .slice none 0 0], []⟩ 8 (by kernel_rfl) (by kernel_rfl) (by kernel_rfl) (by kernel_rfl)) ?_
  intro W base args ds gs before hval0 hW hcnd hsz0 _
  have hsz : (DataW.weightsEach Try.prog (Try.f5.params.toList ++ Rows.rttBoundsSpec.plain.varTypes Try.prog) (ds ++ gs)).all (· ≤ reachBytes) = true := hsz0
  have hval : ∀ (j : Nat) t v, Try.f5.params[j]? = some t → args[j]? = some v → Value.okWide Try.prog W .any base t v := hval0
  have hW' := hW
  obtain ⟨p, q, hA0, hV, rfl, hfz, hnd⟩ := hW
  have hA : DataW.TrodAll enc Try.prog W 0 (fun _ => true) true Try.f5.params.toList args.toList ds p := hA0
  rw [Try.params5] at hA hval hsz
  obtain ⟨v0, vs0, d0, ds0, p0, q0, hargs, rfl, rfl, h0, r0⟩ := trodAll_cons hA
  obtain ⟨v1, vs1, d1, ds1, p1, q1, rfl, rfl, rfl, h1, r1⟩ := trodAll_cons r0
  obtain ⟨rfl, rfl, rfl⟩ := trodAll_nil r1
  obtain rfl : args = #[v0, v1] := by cases args; simp_all
  obtain ⟨rfl, rfl⟩ := trodVars_none hV
  have k0 := h0
  have lt0 : ∀ x ∈ p0, x.block < W.heap.size := by obtain ⟨m, hm⟩ := k0; exact DataW.trod_lt m _ _ _ hm
  have o0 := Open.arg (t := 34) (d := k34) (ok := okT34) tellsT34 hsz (j := 0) rfl rfl h0
  obtain ⟨cs0, e0, _⟩ := okWide_struct Try.underlying34 (hval 0 34 v0 rfl rfl)
  subst e0
  obtain ⟨x0, hK0, hO0⟩ := o0
  obtain ⟨cl0, hl0⟩ : ∃ l, (Value.agg cs0).cells.toList = l := ⟨_, rfl⟩
  rw [hl0] at hK0
  obtain ⟨a0_0, a0_1, a0_2, a0_3⟩ := x0
  obtain ⟨_, _, rfl, rfl, ⟨_, _, rfl, rfl, ⟨_, _, rfl, rfl, rfl⟩⟩⟩ := hK0
  obtain rfl : cs0 = #[.int .i64 a0_0, .int .i64 a0_1, .int .i64 a0_2, .int .i64 a0_3] := by cases cs0; simpa [Value.cells] using hl0
  obtain ⟨w0_0, w0_1, w0_2, w0_3⟩ := hO0
  have k1 := h1
  have lt1 : ∀ x ∈ p1, x.block < W.heap.size := by obtain ⟨m, hm⟩ := k1; exact DataW.trod_lt m _ _ _ hm
  have o1 := Open.arg (t := 45) (d := (Kd.slice 3 (Kd.int .i64))) (ok := (fun y => y.length * 8 ≤ 140737488351232 ∧ ∀ e1 ∈ y, (Lit.int .i64 e1).wf = true)) (Open.tells_slice Try.underlying45 (by kernel_rfl) (by kernel_rfl) (Open.tells_int Try.underlying3)) hsz (j := 1) rfl rfl h1
  obtain ⟨A1, len1, c1, e1⟩ := okWide_slice Try.underlying45 (hval 1 45 v1 rfl rfl)
  subst e1
  obtain ⟨l1, ⟨B1, cc1, ha1, hc1, hr1⟩, y1, z1⟩ := o1
  simp only [Value.cells, List.cons.injEq, Value.slice.injEq, and_true] at ha1
  obtain ⟨rfl, rfl, rfl⟩ := ha1
  clear hA0 hval0 hsz0 hsz
  obtain ⟨kk, hh⟩ := Pure.RttBounds _ _ _ _ _ w0_0 w0_1 w0_2 w0_3 y1 z1
  refine (PA.stopcocklaw18_RttBounds.calls kk a0_0 a0_1 a0_2 a0_3 _ _ l1 true W hr1 hc1 hh rfl).mono fun e W' ⟨he, bel0⟩ => ?_
  have bel : Below W.heap.size W W' := bel0
  subst he
  exact ⟨_, rfl, _, _, _, [], _, [], hW', trodAll_mk1 (shut_bool Try.underlying4 _), (trodAll_cons_mk (Below.trod laidOut (by kernel_rfl) (of_decide_eq_true (by kernel_rfl)) k0 bel lt0) (trodAll_cons_mk (Below.trod laidOut (by kernel_rfl) (of_decide_eq_true (by kernel_rfl)) k1 bel lt1) trodAll_mk0)), rfl, bel.frame _, fun h => by cases h⟩
theorem over : Rows.rttBoundsRow.holds Try.pinned (OpenSpec.ofChange Rows.rttBoundsSpec) :=
  OpenClaim.holds_of_wide 5 Try.f5 rfl rfl rfl rfl rfl rfl rfl ⟨rfl, rfl, rfl, rfl, rfl⟩ rfl rfl rfl rfl rfl (by kernel_rfl) Try.func5 (by kernel_rfl)
    (of_decide_eq_true (by kernel_rfl)) (by unfold Func.isWrapper; first | (rw [if_pos (by decide +kernel)]; kernel_rfl) | (rw [if_neg (by decide +kernel)]; exact ⟨rfl, rfl⟩))
    (fun os started H enc _ => lifted os started H enc)
theorem proved : Rows.RttBoundsSaid := over
#print axioms proved
end Go.Proofs.Ytbdakddmonopmaa.rttBounds
namespace Go.Proofs.Ytbdakddmonopmaa
/-- The row, under a short name, for the claim. -/
theorem rttBounds_holds : Rows.RttBoundsSaid := rttBounds.proved
end Go.Proofs.Ytbdakddmonopmaa
