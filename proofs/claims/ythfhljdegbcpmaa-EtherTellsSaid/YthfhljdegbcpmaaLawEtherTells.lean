-- Written by a program of this session (wip/tools/mkprint.py, mp.sh) for this claim.
import Derived.Test.YthfhljdegbcpmaaRows
import Derived.Test.YthfhljdegbcpmaaPAx8
import Derived.Test.YthfhljdegbcpmaaPureEtherTells
import Derived.Test.YthfhljdegbcpmaaOpen
import Derived.WalkKit
import Derived.ProofKit
import Derived.OpenShut
import Derived.ShutString
import Derived.ChangeOld
import Derived.Below
import Derived.SizedLaws
namespace Go.Proofs.Ythfhljdegbcpmaa.etherTells
open Go.ChangeShapes Go.WideShapes Go.ChangeAt Go.RowKit Go.Proofs.YthfhljdegbcpmaaW.PrintWords Go.Proofs.Ythfhljdegbcpmaa.PA
open Go.ChangeMaps (open_string shut_string)
set_option linter.unusedVariables false
set_option linter.unusedSimpArgs false
theorem own : ownKnob Try.prog.godebug = none := by kernel_rfl
theorem laidOut : laidOutB Try.prog = true := by kernel_rfl
set_option maxRecDepth 100000 in
theorem lifted (os : Os) (started : os.Started) (H : Type) (enc : TypeId × Value → H) :
    ReturnsInHanded {} Try.checked os 4 .any (Rows.etherTellsSpec.pre6 enc Try.prog Try.f4 Rows.etherTellsRow.domain false) (Rows.etherTellsSpec.post enc Try.prog Try.f4 false true false false) := by
  refine returnsInHanded_of_change_sized (C := Try.checked) own started (by kernel_rfl) Try.func4
    (ChangeSpec.witness6 (enc := enc) (C := Try.checked) false ⟨#[], #[.agg #[.int .u64 0, .int .u64 0, .int .i64 0, .slice none 0 0], .agg #[.int .i64 0, .int .u64 0, .int .u32 0, .int .u64 0, .int .u32 0], .slice none 0 0], []⟩ 8 (by kernel_rfl) (by kernel_rfl) (by kernel_rfl) (by kernel_rfl)) ?_
  intro W base args ds gs before hval0 hW hcnd hsz0 _
  have hsz : (DataW.weightsEach Try.prog (Try.f4.params.toList ++ Rows.etherTellsSpec.plain.varTypes Try.prog) (ds ++ gs)).all (· ≤ reachBytes) = true := hsz0
  have hval : ∀ (j : Nat) t v, Try.f4.params[j]? = some t → args[j]? = some v → Value.okWide Try.prog W .any base t v := hval0
  have hW' := hW
  obtain ⟨p, q, hA0, hV, rfl, hfz, hnd⟩ := hW
  have hA : DataW.TrodAll enc Try.prog W 0 (fun _ => true) true Try.f4.params.toList args.toList ds p := hA0
  rw [Try.params4] at hA hval hsz
  obtain ⟨v0, vs0, d0, ds0, p0, q0, hargs, rfl, rfl, h0, r0⟩ := trodAll_cons hA
  obtain ⟨v1, vs1, d1, ds1, p1, q1, rfl, rfl, rfl, h1, r1⟩ := trodAll_cons r0
  obtain ⟨v2, vs2, d2, ds2, p2, q2, rfl, rfl, rfl, h2, r2⟩ := trodAll_cons r1
  obtain ⟨rfl, rfl, rfl⟩ := trodAll_nil r2
  obtain rfl : args = #[v0, v1, v2] := by cases args; simp_all
  obtain ⟨rfl, rfl⟩ := trodVars_none hV
  have k0 := h0
  have lt0 : ∀ x ∈ p0, x.block < W.heap.size := by obtain ⟨m, hm⟩ := k0; exact DataW.trod_lt m _ _ _ hm
  have o0 := Open.arg (t := 25) (d := k25) (ok := okT25) tellsT25 hsz (j := 0) rfl rfl h0
  obtain ⟨cs0, e0, _⟩ := okWide_struct Try.underlying25 (hval 0 25 v0 rfl rfl)
  subst e0
  obtain ⟨x0, hK0, hO0⟩ := o0
  obtain ⟨cl0, hl0⟩ : ∃ l, (Value.agg cs0).cells.toList = l := ⟨_, rfl⟩
  rw [hl0] at hK0
  obtain ⟨a0_0, a0_1, a0_2, l0_3⟩ := x0
  obtain ⟨_, _, rfl, rfl, ⟨_, _, rfl, rfl, ⟨_, _, rfl, rfl, ⟨A0_3, c0_3, rfl, hc0_3, hr0_3⟩⟩⟩⟩ := hK0
  obtain rfl : cs0 = #[.int .u64 a0_0, .int .u64 a0_1, .int .i64 a0_2, .slice A0_3 l0_3.length c0_3] := by cases cs0; simpa [Value.cells] using hl0
  obtain ⟨w0_0, w0_1, w0_2, ⟨y0_3, z0_3⟩⟩ := hO0
  have k1 := h1
  have lt1 : ∀ x ∈ p1, x.block < W.heap.size := by obtain ⟨m, hm⟩ := k1; exact DataW.trod_lt m _ _ _ hm
  have o1 := Open.arg (t := 39) (d := k39) (ok := okT39) tellsT39 hsz (j := 1) rfl rfl h1
  obtain ⟨cs1, e1, _⟩ := okWide_struct Try.underlying39 (hval 1 39 v1 rfl rfl)
  subst e1
  obtain ⟨x1, hK1, hO1⟩ := o1
  obtain ⟨cl1, hl1⟩ : ∃ l, (Value.agg cs1).cells.toList = l := ⟨_, rfl⟩
  rw [hl1] at hK1
  obtain ⟨a1_0, a1_1, a1_2, a1_3, a1_4⟩ := x1
  obtain ⟨_, _, rfl, rfl, ⟨_, _, rfl, rfl, ⟨_, _, rfl, rfl, ⟨_, _, rfl, rfl, rfl⟩⟩⟩⟩ := hK1
  obtain rfl : cs1 = #[.int .i64 a1_0, .int .u64 a1_1, .int .u32 a1_2, .int .u64 a1_3, .int .u32 a1_4] := by cases cs1; simpa [Value.cells] using hl1
  obtain ⟨w1_0, w1_1, w1_2, w1_3, w1_4⟩ := hO1
  have k2 := h2
  have lt2 : ∀ x ∈ p2, x.block < W.heap.size := by obtain ⟨m, hm⟩ := k2; exact DataW.trod_lt m _ _ _ hm
  have o2 := Open.arg (t := 23) (d := (Kd.slice 5 (Kd.int .u8))) (ok := (fun y => y.length * 1 ≤ 140737488351232 ∧ ∀ e1 ∈ y, (Lit.int .u8 e1).wf = true)) (Open.tells_slice Try.underlying23 (by kernel_rfl) (by kernel_rfl) (Open.tells_int Try.underlying5)) hsz (j := 2) rfl rfl h2
  obtain ⟨A2, len2, c2, e2⟩ := okWide_slice Try.underlying23 (hval 2 23 v2 rfl rfl)
  subst e2
  obtain ⟨l2, ⟨B2, cc2, ha2, hc2, hr2⟩, y2, z2⟩ := o2
  simp only [Value.cells, List.cons.injEq, Value.slice.injEq, and_true] at ha2
  obtain ⟨rfl, rfl, rfl⟩ := ha2
  clear hA0 hval0 hsz0 hsz
  obtain ⟨kk, hh⟩ := Pure.EtherTells _ _ _ _ _ _ _ _ _ _ w0_0 w0_1 w0_2 y0_3 z0_3 w1_0 w1_1 w1_2 w1_3 w1_4 y2 z2
  refine (PA.stopcocklaw03_EtherTells.calls kk a0_0 a0_1 a0_2 _ _ l0_3 a1_0 a1_1 a1_2 a1_3 a1_4 _ _ l2 true W hr0_3 hc0_3 hr2 hc2 hh rfl).mono fun e W' ⟨he, bel0⟩ => ?_
  have bel : Below W.heap.size W W' := bel0
  subst he
  exact ⟨_, rfl, _, _, _, [], _, [], hW', trodAll_mk1 (shut_bool Try.underlying4 _), (trodAll_cons_mk (Below.trod laidOut (by kernel_rfl) (of_decide_eq_true (by kernel_rfl)) k0 bel lt0) (trodAll_cons_mk (Below.trod laidOut (by kernel_rfl) (of_decide_eq_true (by kernel_rfl)) k1 bel lt1) (trodAll_cons_mk (Below.trod laidOut (by kernel_rfl) (of_decide_eq_true (by kernel_rfl)) k2 bel lt2) trodAll_mk0))), rfl, bel.frame _, fun h => by cases h⟩
theorem over : Rows.etherTellsRow.holds Try.pinned (OpenSpec.ofChange Rows.etherTellsSpec) :=
  OpenClaim.holds_of_wide 4 Try.f4 rfl rfl rfl rfl rfl rfl rfl ⟨rfl, rfl, rfl, rfl, rfl⟩ rfl rfl rfl rfl rfl (by kernel_rfl) Try.func4 (by kernel_rfl)
    (of_decide_eq_true (by kernel_rfl)) (by unfold Func.isWrapper; first | (rw [if_pos (by decide +kernel)]; kernel_rfl) | (rw [if_neg (by decide +kernel)]; exact ⟨rfl, rfl⟩))
    (fun os started H enc _ => lifted os started H enc)
theorem proved : Rows.EtherTellsSaid := over
#print axioms proved
end Go.Proofs.Ythfhljdegbcpmaa.etherTells
namespace Go.Proofs.Ythfhljdegbcpmaa
/-- The row, under a short name, for the claim. -/
theorem etherTells_holds : Rows.EtherTellsSaid := etherTells.proved
end Go.Proofs.Ythfhljdegbcpmaa
