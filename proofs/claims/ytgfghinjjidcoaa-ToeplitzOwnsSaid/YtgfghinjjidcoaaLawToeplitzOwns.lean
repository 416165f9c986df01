-- Written by a program of this session (wip/tools/mkprint.py, mp.sh) for this claim.
import Derived.Test.YtgfghinjjidcoaaRows
import Derived.Test.YtgfghinjjidcoaaPBx1
import Derived.Test.YtgfghinjjidcoaaPureToeplitzOwns
import Derived.Test.YtgfghinjjidcoaaOpen
import Derived.WalkKit
import Derived.ProofKit
import Derived.OpenShut
import Derived.ShutString
import Derived.ChangeOld
import Derived.Below
import Derived.SizedLaws
namespace Go.Proofs.Ytgfghinjjidcoaa.toeplitzOwns
open Go.ChangeShapes Go.WideShapes Go.ChangeAt Go.RowKit Go.Proofs.YtgfghinjjidcoaaW.PrintWords Go.Proofs.Ytgfghinjjidcoaa.PB
open Go.ChangeMaps (open_string shut_string)
set_option linter.unusedVariables false
set_option linter.unusedSimpArgs false
theorem own : ownKnob Try.prog.godebug = none := by kernel_rfl
theorem laidOut : laidOutB Try.prog = true := by kernel_rfl
set_option maxRecDepth 100000 in
theorem lifted (os : Os) (started : os.Started) (H : Type) (enc : TypeId × Value → H) :
    ReturnsInHanded {} Try.checked os 7 .any (Rows.toeplitzOwnsSpec.pre6 enc Try.prog Try.f7 Rows.toeplitzOwnsRow.domain false) (Rows.toeplitzOwnsSpec.post enc Try.prog Try.f7 false true false false) := by
  refine returnsInHanded_of_change_sized (C := Try.checked) own started (by kernel_rfl) Try.func7
    (ChangeSpec.witness6 (enc := enc) (C := Try.checked) false ⟨#[], #[.slice none 0 0, .slice none 0 0, .agg #[.int .u32 0, .int .u32 0, .int .u16 0, .int .i64 0, .int .u16 0]], []⟩ 8 (by kernel_rfl) (by kernel_rfl) (by kernel_rfl) (by kernel_rfl)) ?_
  intro W base args ds gs before hval0 hW hcnd hsz0 _
  have hsz : (DataW.weightsEach Try.prog (Try.f7.params.toList ++ Rows.toeplitzOwnsSpec.plain.varTypes Try.prog) (ds ++ gs)).all (· ≤ reachBytes) = true := hsz0
  have hval : ∀ (j : Nat) t v, Try.f7.params[j]? = some t → args[j]? = some v → Value.okWide Try.prog W .any base t v := hval0
  have hW' := hW
  obtain ⟨p, q, hA0, hV, rfl, hfz, hnd⟩ := hW
  have hA : DataW.TrodAll enc Try.prog W 0 (fun _ => true) true Try.f7.params.toList args.toList ds p := hA0
  rw [Try.params7] at hA hval hsz
  obtain ⟨v0, vs0, d0, ds0, p0, q0, hargs, rfl, rfl, h0, r0⟩ := trodAll_cons hA
  obtain ⟨v1, vs1, d1, ds1, p1, q1, rfl, rfl, rfl, h1, r1⟩ := trodAll_cons r0
  obtain ⟨v2, vs2, d2, ds2, p2, q2, rfl, rfl, rfl, h2, r2⟩ := trodAll_cons r1
  obtain ⟨rfl, rfl, rfl⟩ := trodAll_nil r2
  obtain rfl : args = #[v0, v1, v2] := by cases args; simp_all
  obtain ⟨rfl, rfl⟩ := trodVars_none hV
  have k0 := h0
  have lt0 : ∀ x ∈ p0, x.block < W.heap.size := by obtain ⟨m, hm⟩ := k0; exact DataW.trod_lt m _ _ _ hm
  have o0 := Open.arg (t := 22) (d := (Kd.slice 5 (Kd.int .u8))) (ok := (fun y => y.length * 1 ≤ 140737488351232 ∧ ∀ e1 ∈ y, (Lit.int .u8 e1).wf = true)) (Open.tells_slice Try.underlying22 (by kernel_rfl) (by kernel_rfl) (Open.tells_int Try.underlying5)) hsz (j := 0) rfl rfl h0
  obtain ⟨A0, len0, c0, e0⟩ := okWide_slice Try.underlying22 (hval 0 22 v0 rfl rfl)
  subst e0
  obtain ⟨l0, ⟨B0, cc0, ha0, hc0, hr0⟩, y0, z0⟩ := o0
  simp only [Value.cells, List.cons.injEq, Value.slice.injEq, and_true] at ha0
  obtain ⟨rfl, rfl, rfl⟩ := ha0
  have k1 := h1
  have lt1 : ∀ x ∈ p1, x.block < W.heap.size := by obtain ⟨m, hm⟩ := k1; exact DataW.trod_lt m _ _ _ hm
  have o1 := Open.arg (t := 36) (d := (Kd.slice 3 (Kd.int .i64))) (ok := (fun y => y.length * 8 ≤ 140737488351232 ∧ ∀ e1 ∈ y, (Lit.int .i64 e1).wf = true)) (Open.tells_slice Try.underlying36 (by kernel_rfl) (by kernel_rfl) (Open.tells_int Try.underlying3)) hsz (j := 1) rfl rfl h1
  obtain ⟨A1, len1, c1, e1⟩ := okWide_slice Try.underlying36 (hval 1 36 v1 rfl rfl)
  subst e1
  obtain ⟨l1, ⟨B1, cc1, ha1, hc1, hr1⟩, y1, z1⟩ := o1
  simp only [Value.cells, List.cons.injEq, Value.slice.injEq, and_true] at ha1
  obtain ⟨rfl, rfl, rfl⟩ := ha1
  have k2 := h2
  have lt2 : ∀ x ∈ p2, x.block < W.heap.size := by obtain ⟨m, hm⟩ := k2; exact DataW.trod_lt m _ _ _ hm
  have o2 := Open.arg (t := 50) (d := k50) (ok := okT50) tellsT50 hsz (j := 2) rfl rfl h2
  obtain ⟨cs2, e2, _⟩ := okWide_struct Try.underlying50 (hval 2 50 v2 rfl rfl)
  subst e2
  obtain ⟨x2, hK2, hO2⟩ := o2
  obtain ⟨cl2, hl2⟩ : ∃ l, (Value.agg cs2).cells.toList = l := ⟨_, rfl⟩
  rw [hl2] at hK2
  obtain ⟨a2_0, a2_1, a2_2, a2_3, a2_4⟩ := x2
  obtain ⟨_, _, rfl, rfl, ⟨_, _, rfl, rfl, ⟨_, _, rfl, rfl, ⟨_, _, rfl, rfl, rfl⟩⟩⟩⟩ := hK2
  obtain rfl : cs2 = #[.int .u32 a2_0, .int .u32 a2_1, .int .u16 a2_2, .int .i64 a2_3, .int .u16 a2_4] := by cases cs2; simpa [Value.cells] using hl2
  obtain ⟨w2_0, w2_1, w2_2, w2_3, w2_4⟩ := hO2
  clear hA0 hval0 hsz0 hsz
  obtain ⟨kk, hh⟩ := Pure.ToeplitzOwns _ _ _ _ _ _ _ y0 z0 y1 z1 w2_0 w2_1 w2_2 w2_3 w2_4
  refine (PB.stopcocklaw07_ToeplitzOwns.calls kk _ _ l0 _ _ l1 a2_0 a2_1 a2_2 a2_3 a2_4 true W hr0 hc0 hr1 hc1 hh rfl).mono fun e W' ⟨he, bel0⟩ => ?_
  have bel : Below W.heap.size W W' := bel0
  subst he
  exact ⟨_, rfl, _, _, _, [], _, [], hW', trodAll_mk1 (shut_bool Try.underlying4 _), (trodAll_cons_mk (Below.trod laidOut (by kernel_rfl) (of_decide_eq_true (by kernel_rfl)) k0 bel lt0) (trodAll_cons_mk (Below.trod laidOut (by kernel_rfl) (of_decide_eq_true (by kernel_rfl)) k1 bel lt1) (trodAll_cons_mk (Below.trod laidOut (by kernel_rfl) (of_decide_eq_true (by kernel_rfl)) k2 bel lt2) trodAll_mk0))), rfl, bel.frame _, fun h => by cases h⟩
theorem over : Rows.toeplitzOwnsRow.holds Try.pinned (OpenSpec.ofChange Rows.toeplitzOwnsSpec) :=
  OpenClaim.holds_of_wide 7 Try.f7 rfl rfl rfl rfl rfl rfl rfl ⟨rfl, rfl, rfl, rfl, rfl⟩ rfl rfl rfl rfl rfl (by kernel_rfl) Try.func7 (by kernel_rfl)
    (of_decide_eq_true (by kernel_rfl)) (by unfold Func.isWrapper; first | (rw [if_pos (by decide +kernel)]; kernel_rfl) | (rw [if_neg (by decide +kernel)]; exact ⟨rfl, rfl⟩))
    (fun os started H enc _ => lifted os started H enc)
theorem proved : Rows.ToeplitzOwnsSaid := over
#print axioms proved
end Go.Proofs.Ytgfghinjjidcoaa.toeplitzOwns
namespace Go.Proofs.Ytgfghinjjidcoaa
/-- The row, under a short name, for the claim. -/
theorem toeplitzOwns_holds : Rows.ToeplitzOwnsSaid := toeplitzOwns.proved
end Go.Proofs.Ytgfghinjjidcoaa
