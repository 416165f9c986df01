-- Written by a program of this session (wip/tools/mkprint.py, mp.sh) for this claim.
import Derived.Test.YtjhggbanonfbgaaRows
import Derived.Test.YtjhggbanonfbgaaPAx16
import Derived.Test.YtjhggbanonfbgaaPureRenoPlays
import Derived.Test.YtjhggbanonfbgaaOpen
import Derived.WalkKit
import Derived.ProofKit
import Derived.OpenShut
import Derived.ShutString
import Derived.ChangeOld
import Derived.Below
import Derived.SizedLaws
namespace Go.Proofs.Ytjhggbanonfbgaa.renoPlays
open Go.ChangeShapes Go.WideShapes Go.ChangeAt Go.RowKit Go.Proofs.YtjhggbanonfbgaaW.PrintWords Go.Proofs.Ytjhggbanonfbgaa.PA
open Go.ChangeMaps (open_string shut_string)
set_option linter.unusedVariables false
set_option linter.unusedSimpArgs false
theorem own : ownKnob Try.prog.godebug = none := by kernel_rfl
theorem laidOut : laidOutB Try.prog = true := by kernel_rfl
set_option maxRecDepth 100000 in
theorem lifted (os : Os) (started : os.Started) (H : Type) (enc : TypeId × Value → H) :
    ReturnsInHanded {} Try.checked os 5 .any (Rows.renoPlaysSpec.pre6 enc Try.prog Try.f5 Rows.renoPlaysRow.domain false) (Rows.renoPlaysSpec.post enc Try.prog Try.f5 false true false false) := by
  refine returnsInHanded_of_change_sized (C := Try.checked) own started (by kernel_rfl) Try.func5
    (ChangeSpec.witness6 (enc := enc) (C := Try.checked) false ⟨#[], #[.int .i64 0, .slice none 0 0], []⟩ 8 (by kernel_rfl) (by kernel_rfl) (by kernel_rfl) (by kernel_rfl)) ?_
  intro W base args ds gs before hval0 hW hcnd hsz0 _
  have hsz : (DataW.weightsEach Try.prog (Try.f5.params.toList ++ Rows.renoPlaysSpec.plain.varTypes Try.prog) (ds ++ gs)).all (· ≤ reachBytes) = true := hsz0
  have hval : ∀ (j : Nat) t v, Try.f5.params[j]? = some t → args[j]? = some v → Value.okWide Try.prog W .any base t v := hval0
  have hW' := hW
  obtain ⟨p, q, hA0, hV, rfl, hfz, hnd⟩ := hW
  have hA : DataW.TrodAll enc Try.prog W 0 (fun _ => true) true Try.f5.params.toList args.toList ds p := hA0
  rw [Try.params5] at hA hval hsz
  obtain ⟨v0, vs0, d0, ds0, p0, q0, hargs, rfl, rfl, h0, r0⟩ := trodAll_cons hA
  obtain ⟨v1, vs1, d1, ds1, p1, q1, rfl, rfl, rfl, h1, r1⟩ := trodAll_cons r0
  obtain ⟨rfl, rfl, rfl⟩ := trodAll_nil r1
  obtain rfl : args = #[v0, v1] := by cases args; simp_all
  obtain ⟨rfl, rfl⟩ := trodVars_none hV
  obtain ⟨a0, rfl, rfl, rfl, w0⟩ := open_int Try.underlying3 (hval 0 3 v0 rfl rfl) h0
  have k1 := h1
  have lt1 : ∀ x ∈ p1, x.block < W.heap.size := by obtain ⟨m, hm⟩ := k1; exact DataW.trod_lt m _ _ _ hm
  have o1 := Open.arg (t := 39) (d := (Kd.slice 42 k42)) (ok := (fun y => y.length * 16 ≤ 140737488351232 ∧ ∀ e1 ∈ y, okT42 e1)) (Open.tells_slice Try.underlying39 (by kernel_rfl) (by kernel_rfl) tellsT42) hsz (j := 1) rfl rfl h1
  obtain ⟨A1, len1, c1, e1⟩ := okWide_slice Try.underlying39 (hval 1 39 v1 rfl rfl)
  subst e1
  obtain ⟨l1, ⟨B1, cc1, ha1, hc1, hr1⟩, y1, z1⟩ := o1
  simp only [Value.cells, List.cons.injEq, Value.slice.injEq, and_true] at ha1
  obtain ⟨rfl, rfl, rfl⟩ := ha1
  clear hA0 hval0 hsz0 hsz
  obtain ⟨kk, hh⟩ := Pure.RenoPlays _ _ w0 y1 z1
  refine (PA.stopcocklaw20_RenoPlays.calls kk a0 _ _ l1 true W hr1 hc1 hh rfl).mono fun e W' ⟨he, bel0⟩ => ?_
  have bel : Below W.heap.size W W' := bel0
  subst he
  exact ⟨_, rfl, _, _, _, [], _, [], hW', trodAll_mk1 (shut_bool Try.underlying4 _), (trodAll_cons_mk (shut_int Try.underlying3 w0) (trodAll_cons_mk (Below.trod laidOut (by kernel_rfl) (of_decide_eq_true (by kernel_rfl)) k1 bel lt1) trodAll_mk0)), rfl, bel.frame _, fun h => by cases h⟩
theorem over : Rows.renoPlaysRow.holds Try.pinned (OpenSpec.ofChange Rows.renoPlaysSpec) :=
  OpenClaim.holds_of_wide 5 Try.f5 rfl rfl rfl rfl rfl rfl rfl ⟨rfl, rfl, rfl, rfl, rfl⟩ rfl rfl rfl rfl rfl (by kernel_rfl) Try.func5 (by kernel_rfl)
    (of_decide_eq_true (by kernel_rfl)) (by unfold Func.isWrapper; first | (rw [if_pos (by decide +kernel)]; kernel_rfl) | (rw [if_neg (by decide +kernel)]; exact ⟨rfl, rfl⟩))
    (fun os started H enc _ => lifted os started H enc)
theorem proved : Rows.RenoPlaysSaid := over
#print axioms proved
end Go.Proofs.Ytjhggbanonfbgaa.renoPlays
namespace Go.Proofs.Ytjhggbanonfbgaa
/-- The row, under a short name, for the claim. -/
theorem renoPlays_holds : Rows.RenoPlaysSaid := renoPlays.proved
end Go.Proofs.Ytjhggbanonfbgaa
