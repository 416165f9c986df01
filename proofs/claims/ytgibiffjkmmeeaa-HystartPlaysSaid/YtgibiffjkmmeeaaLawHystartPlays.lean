-- Written by a program of this session (wip/tools/mkprint.py, mp.sh) for this claim.
import Derived.Test.YtgibiffjkmmeeaaRows
import Derived.Test.YtgibiffjkmmeeaaPCx11
import Derived.Test.YtgibiffjkmmeeaaPureHystartPlays
import Derived.Test.YtgibiffjkmmeeaaOpen
import Derived.WalkKit
import Derived.ProofKit
import Derived.OpenShut
import Derived.ShutString
import Derived.ChangeOld
import Derived.Below
import Derived.SizedLaws
namespace Go.Proofs.Ytgibiffjkmmeeaa.hystartPlays
open Go.ChangeShapes Go.WideShapes Go.ChangeAt Go.RowKit Go.Proofs.YtgibiffjkmmeeaaW.PrintWords Go.Proofs.Ytgibiffjkmmeeaa.PC
open Go.ChangeMaps (open_string shut_string)
set_option linter.unusedVariables false
set_option linter.unusedSimpArgs false
theorem own : ownKnob Try.prog.godebug = none := by kernel_rfl
theorem laidOut : laidOutB Try.prog = true := by kernel_rfl
set_option maxRecDepth 100000 in
theorem lifted (os : Os) (started : os.Started) (H : Type) (enc : TypeId × Value → H) :
    ReturnsInHanded {} Try.checked os 5 .any (Rows.hystartPlaysSpec.pre6 enc Try.prog Try.f5 Rows.hystartPlaysRow.domain false) (Rows.hystartPlaysSpec.post enc Try.prog Try.f5 false true false false) := by
  refine returnsInHanded_of_change_sized (C := Try.checked) own started (by kernel_rfl) Try.func5
    (ChangeSpec.witness6 (enc := enc) (C := Try.checked) false ⟨#[], #[.slice none 0 0], []⟩ 8 (by kernel_rfl) (by kernel_rfl) (by kernel_rfl) (by kernel_rfl)) ?_
  intro W base args ds gs before hval0 hW hcnd hsz0 _
  have hsz : (DataW.weightsEach Try.prog (Try.f5.params.toList ++ Rows.hystartPlaysSpec.plain.varTypes Try.prog) (ds ++ gs)).all (· ≤ reachBytes) = true := hsz0
  have hval : ∀ (j : Nat) t v, Try.f5.params[j]? = some t → args[j]? = some v → Value.okWide Try.prog W .any base t v := hval0
  have hW' := hW
  obtain ⟨p, q, hA0, hV, rfl, hfz, hnd⟩ := hW
  have hA : DataW.TrodAll enc Try.prog W 0 (fun _ => true) true Try.f5.params.toList args.toList ds p := hA0
  rw [Try.params5] at hA hval hsz
  obtain ⟨v0, vs0, d0, ds0, p0, q0, hargs, rfl, rfl, h0, r0⟩ := trodAll_cons hA
  obtain ⟨rfl, rfl, rfl⟩ := trodAll_nil r0
  obtain rfl : args = #[v0] := by cases args; simp_all
  obtain ⟨rfl, rfl⟩ := trodVars_none hV
  have k0 := h0
  have lt0 : ∀ x ∈ p0, x.block < W.heap.size := by obtain ⟨m, hm⟩ := k0; exact DataW.trod_lt m _ _ _ hm
  have o0 := Open.arg (t := 34) (d := (Kd.slice 37 k37)) (ok := (fun y => y.length * 16 ≤ 140737488351232 ∧ ∀ e1 ∈ y, okT37 e1)) (Open.tells_slice Try.underlying34 (by kernel_rfl) (by kernel_rfl) tellsT37) hsz (j := 0) rfl rfl h0
  obtain ⟨A0, len0, c0, e0⟩ := okWide_slice Try.underlying34 (hval 0 34 v0 rfl rfl)
  subst e0
  obtain ⟨l0, ⟨B0, cc0, ha0, hc0, hr0⟩, y0, z0⟩ := o0
  simp only [Value.cells, List.cons.injEq, Value.slice.injEq, and_true] at ha0
  obtain ⟨rfl, rfl, rfl⟩ := ha0
  clear hA0 hval0 hsz0 hsz
  obtain ⟨kk, hh⟩ := Pure.HystartPlays _ y0 z0
  refine (PC.stopcocklaw22_HystartPlays.calls kk _ _ l0 true W hr0 hc0 hh rfl).mono fun e W' ⟨he, bel0⟩ => ?_
  have bel : Below W.heap.size W W' := bel0
  subst he
  exact ⟨_, rfl, _, _, _, [], _, [], hW', trodAll_mk1 (shut_bool Try.underlying4 _), (trodAll_cons_mk (Below.trod laidOut (by kernel_rfl) (of_decide_eq_true (by kernel_rfl)) k0 bel lt0) trodAll_mk0), rfl, bel.frame _, fun h => by cases h⟩
theorem over : Rows.hystartPlaysRow.holds Try.pinned (OpenSpec.ofChange Rows.hystartPlaysSpec) :=
  OpenClaim.holds_of_wide 5 Try.f5 rfl rfl rfl rfl rfl rfl rfl ⟨rfl, rfl, rfl, rfl, rfl⟩ rfl rfl rfl rfl rfl (by kernel_rfl) Try.func5 (by kernel_rfl)
    (of_decide_eq_true (by kernel_rfl)) (by unfold Func.isWrapper; first | (rw [if_pos (by decide +kernel)]; kernel_rfl) | (rw [if_neg (by decide +kernel)]; exact ⟨rfl, rfl⟩))
    (fun os started H enc _ => lifted os started H enc)
theorem proved : Rows.HystartPlaysSaid := over
#print axioms proved
end Go.Proofs.Ytgibiffjkmmeeaa.hystartPlays
namespace Go.Proofs.Ytgibiffjkmmeeaa
/-- The row, under a short name, for the claim. -/
theorem hystartPlays_holds : Rows.HystartPlaysSaid := hystartPlays.proved
end Go.Proofs.Ytgibiffjkmmeeaa
