/- RingsSpaced (chapter 8): for any settings, number of frames and ticks, between two frames that leave there are at least as many ticks as there should, and they leave in order: the law answers true. Conditions: none beyond the row's own. -/
import Derived.Test.YtigmlklcbhlmpaaRows
import Derived.Test.YtigmlklcbhlmpaaHandP
import Derived.Test.YtigmlklcbhlmpaaOpen
import Derived.WalkKit
import Derived.ProofKit
import Derived.OpenShut
import Derived.ShutString
import Derived.ChangeOld
import Derived.Below
import Derived.SizedLaws
namespace Go.Proofs.Ytigmlklcbhlmpaa.ringsSpaced
open Go.ChangeShapes Go.WideShapes Go.ChangeAt Go.RowKit Go.Proofs.YtigmlklcbhlmpaaW.PrintWords
set_option linter.unusedVariables false
set_option linter.unusedSimpArgs false
theorem own : ownKnob Try.prog.godebug = none := by kernel_rfl
theorem laidOut : laidOutB Try.prog = true := by kernel_rfl
/-- A card's settings, as they come in. -/
structure Conf where
  key : List Int
  table : List Int
  size : Int
  every : Int
def kConf : Kd Conf := Kd.iso (Kd.pair (Kd.slice 5 (Kd.int .u8)) (Kd.pair (Kd.slice 3 (Kd.int .i64)) (Kd.pair (Kd.int .i64) (Kd.int .i64)))) (fun x : Conf => (x.key, x.table, x.size, x.every))
def okConf (x : Conf) : Prop := (x.key.length * 1 ≤ 140737488351232 ∧ ∀ y ∈ x.key, (Lit.int .u8 y).wf = true) ∧ (x.table.length * 8 ≤ 140737488351232 ∧ ∀ y ∈ x.table, (Lit.int .i64 y).wf = true) ∧ (Lit.int .i64 x.size).wf = true ∧ (Lit.int .i64 x.every).wf = true
set_option maxRecDepth 100000 in
theorem tellsConf : Open.Tells Try.prog 25 kConf okConf :=
  Open.tells_struct (P := Try.prog) (t := 25) (d := (Kd.pair (Kd.slice 5 (Kd.int .u8)) (Kd.pair (Kd.slice 3 (Kd.int .i64)) (Kd.pair (Kd.int .i64) (Kd.int .i64))))) (ok := fun p => (p.1.length * 1 ≤ 140737488351232 ∧ ∀ y ∈ p.1, (Lit.int .u8 y).wf = true) ∧ (p.2.1.length * 8 ≤ 140737488351232 ∧ ∀ y ∈ p.2.1, (Lit.int .i64 y).wf = true) ∧ (Lit.int .i64 p.2.2.1).wf = true ∧ (Lit.int .i64 p.2.2.2).wf = true) (f := fun x : Conf => (x.key, x.table, x.size, x.every)) (fun p => (⟨p.1, p.2.1, p.2.2.1, p.2.2.2⟩ : Conf)) (fun _ => rfl) Try.underlying25 (by kernel_rfl)
    (Open.tellsF_cons rfl (by kernel_rfl) (Open.tells_slice Try.underlying22 (by kernel_rfl) (by kernel_rfl) (Open.tells_int Try.underlying5)) (Open.tellsF_cons rfl (by kernel_rfl) (Open.tells_slice Try.underlying23 (by kernel_rfl) (by kernel_rfl) (Open.tells_int Try.underlying3)) (Open.tellsF_cons rfl (by kernel_rfl) (Open.tells_int Try.underlying3) (Open.tellsF_one rfl (by kernel_rfl) (Open.tells_int Try.underlying3)))))
set_option maxRecDepth 100000 in
theorem lifted (os : Os) (started : os.Started) (H : Type) (enc : TypeId × Value → H) :
    ReturnsInHanded {} Try.checked os 4 .any (Rows.ringsSpacedSpec.pre6 enc Try.prog Try.f4 Rows.ringsSpacedRow.domain false) (Rows.ringsSpacedSpec.post enc Try.prog Try.f4 false true false false) := by
  refine returnsInHanded_of_change_sized (C := Try.checked) own started (by kernel_rfl) Try.func4
    (ChangeSpec.witness6 (enc := enc) (C := Try.checked) false ⟨#[], #[.agg #[.slice none 0 0, .slice none 0 0, .int .i64 0, .int .i64 0], .int .i64 0, .slice none 0 0], []⟩ 8 (by kernel_rfl) (by kernel_rfl) (by kernel_rfl) (by kernel_rfl)) ?_
  intro W base args ds gs before hval0 hW hcnd hsz0 _
  have hsz : (DataW.weightsEach Try.prog (Try.f4.params.toList ++ Rows.ringsSpacedSpec.plain.varTypes Try.prog) (ds ++ gs)).all (· ≤ reachBytes) = true := hsz0
  have hval : ∀ (j : Nat) t v, Try.f4.params[j]? = some t → args[j]? = some v → Value.okWide Try.prog W .any base t v := hval0
  have hW' := hW
  obtain ⟨p, q, hA0, hV, rfl, hfz, hnd⟩ := hW
  have hA : DataW.TrodAll enc Try.prog W 0 (fun _ => true) true Try.f4.params.toList args.toList ds p := hA0
  rw [Try.params4] at hA hval hsz
  obtain ⟨v0, vs0, d0, ds0, p0, q0, hargs, rfl, rfl, h0, r0⟩ := trodAll_cons hA
  obtain ⟨v1, vs1, d1, ds1, p1, q1, rfl, rfl, rfl, h1, r1⟩ := trodAll_cons r0
  obtain ⟨v2, vs2, d2, ds2, p2, q2, rfl, rfl, rfl, h2, r2⟩ := trodAll_cons r1
  obtain ⟨rfl, rfl, rfl⟩ := trodAll_nil r2
  obtain rfl : args = #[v0, v1, v2] := by cases args; simp_all
  obtain ⟨rfl, rfl⟩ := trodVars_none hV
  have k0 := h0
  have lt0 : ∀ x ∈ p0, x.block < W.heap.size := by obtain ⟨m, hm⟩ := k0; exact DataW.trod_lt m _ _ _ hm
  have o0 := Open.arg (t := 25) (d := kConf) (ok := okConf) tellsConf hsz (j := 0) rfl rfl h0
  obtain ⟨cs0, e0, _⟩ := okWide_struct Try.underlying25 (hval 0 25 v0 rfl rfl)
  subst e0
  obtain ⟨x0, hK0, hO0⟩ := o0
  obtain ⟨cl0, hl0⟩ : ∃ l, (Value.agg cs0).cells.toList = l := ⟨_, rfl⟩
  rw [hl0] at hK0
  obtain ⟨ks, T, sz, ev⟩ := x0
  obtain ⟨_, _, rfl, ⟨KA, ck, rfl, hkc, hkr⟩, _, _, rfl, ⟨A, c, rfl, hTc, hTr⟩, _, _, rfl, rfl, rfl⟩ := hK0
  obtain rfl : cs0 = #[.slice KA ks.length ck, .slice A T.length c, .int .i64 sz, .int .i64 ev] := by cases cs0; simpa [Value.cells] using hl0
  obtain ⟨w0k, w0t, w0s, w0e⟩ := hO0
  obtain ⟨n, rfl, rfl, rfl, w1⟩ := open_int Try.underlying3 (hval 1 3 v1 rfl rfl) h1
  have k2 := h2
  have lt2 : ∀ x ∈ p2, x.block < W.heap.size := by obtain ⟨m, hm⟩ := k2; exact DataW.trod_lt m _ _ _ hm
  have o2 := Open.arg (t := 23) (d := (Kd.slice 3 (Kd.int .i64))) (Open.tells_slice (B := 8) Try.underlying23 (by kernel_rfl) (by kernel_rfl) (Open.tells_int Try.underlying3)) hsz (j := 2) rfl rfl h2
  obtain ⟨A2, len2, c2, e2⟩ := okWide_slice Try.underlying23 (hval 2 23 v2 rfl rfl)
  subst e2
  obtain ⟨ts, ⟨B2, cc2, ha2, hc2, hr2⟩, y2, z2⟩ := o2
  simp only [Value.cells, List.cons.injEq, Value.slice.injEq, and_true] at ha2
  obtain ⟨rfl, rfl, rfl⟩ := ha2
  have hts : ∀ i, i < ts.length → -9223372036854775808 ≤ ts.getD i 0 ∧ ts.getD i 0 ≤ 9223372036854775807 := by
    intro i hi
    rw [List.getD_eq_getElem?_getD, List.getElem?_eq_getElem hi]
    exact Util.wf64 (z2 _ (List.getElem_mem hi))
  clear hA0 hval0 hsz0 hsz
  refine (Hand.spaced_calls KA ks ck A c T sz ev n _ _ ts W (Kd.reads_of_C (d := (0 : Int)) (h1 := fun _ => rfl) hkr) hkc w0k.1 (Kd.reads_of_C (d := (0 : Int)) (h1 := fun _ => rfl) hTr) hTc w0t.1 (Util.wf64 w1) (Kd.reads_of_C (d := (0 : Int)) (h1 := fun _ => rfl) hr2) hc2 hts).mono fun e W' ⟨he, bel⟩ => ?_
  subst he
  exact ⟨_, rfl, _, _, _, [], _, [], hW', trodAll_mk1 (shut_bool Try.underlying4 _), (trodAll_cons_mk (Below.trod laidOut (by kernel_rfl) (of_decide_eq_true (by kernel_rfl)) k0 bel lt0) (trodAll_cons_mk (shut_int Try.underlying3 w1) (trodAll_cons_mk (Below.trod laidOut (by kernel_rfl) (of_decide_eq_true (by kernel_rfl)) k2 bel lt2) trodAll_mk0))), rfl, bel.frame _, fun h => by cases h⟩
theorem over : Rows.ringsSpacedRow.holds Try.pinned (OpenSpec.ofChange Rows.ringsSpacedSpec) :=
  OpenClaim.holds_of_wide 4 Try.f4 rfl rfl rfl rfl rfl rfl rfl ⟨rfl, rfl, rfl, rfl, rfl⟩ rfl rfl rfl rfl rfl (by kernel_rfl) Try.func4 (by kernel_rfl)
    (of_decide_eq_true (by kernel_rfl)) (by unfold Func.isWrapper; first | (rw [if_pos (by decide +kernel)]; kernel_rfl) | (rw [if_neg (by decide +kernel)]; exact ⟨rfl, rfl⟩))
    (fun os started H enc _ => lifted os started H enc)
theorem proved : Rows.RingsSpacedSaid := over
#print axioms proved
end Go.Proofs.Ytigmlklcbhlmpaa.ringsSpaced
namespace Go.Proofs.Ytigmlklcbhlmpaa
/-- The row, under a short name, for the claim. -/
theorem ringsSpaced_holds : Rows.RingsSpacedSaid := ringsSpaced.proved
end Go.Proofs.Ytigmlklcbhlmpaa
