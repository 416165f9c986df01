/- SendbufKeeps (chapter 15): for any size, first number, texts and acknowledgements whose whole bulk is at most 1048576, what is sliced is what was written, by its numbers: the law answers true. Conditions: the arguments' bulk (the row's own bound). -/
import Derived.Test.YtiphiacidokhiaaDoorRows
import Derived.Test.YtiphiacidokhiaaDoorCards
import Derived.Test.YtiphiacidokhiaaDoorTie
import Derived.Test.YtiphiacidokhiaaDoorHandK
import Derived.Test.YtiphiacidokhiaaDoorBulk
import Derived.WalkKit
import Derived.ProofKit
import Derived.OpenShut
import Derived.ShutString
import Derived.ChangeOld
import Derived.Below
import Derived.SizedLaws
import Derived.LaidMore
import Derived.Lay
import Derived.Stop.Joined
namespace Go.Proofs.YtiphiacidokhiaaDoor.sendbufKeeps
open Go.ChangeShapes Go.WideShapes Go.ChangeAt Go.RowKit Go.Proofs.YtiphiacidokhiaaDoorW.PrintWords
set_option linter.unusedVariables false
set_option linter.unusedSimpArgs false
theorem own : ownKnob Tryd.prog.godebug = none := by kernel_rfl
theorem laidOut : laidOutB Tryd.prog = true := by kernel_rfl
set_option maxRecDepth 100000 in
theorem lifted (os : Os) (started : os.Started) (H : Type) (enc : TypeId × Value → H) (F : Stop.Interp) :
    ReturnsInHanded {} Tryd.checked os 3 .any (fun w args => ((Rows.OpenSpec.upto Rows.sendbufKeepsSpec).pre enc Tryd.prog Tryd.f3 Rows.sendbufKeepsUptoRow.domain false w args ∧ laidMetH Tryd.prog [("bytes.ErrTooLarge", Rows.laid_bytes_ErrTooLarge)] w) ∧ sizedMet enc Tryd.prog Tryd.f3 (Rows.OpenSpec.upto Rows.sendbufKeepsSpec) false w args) (((Rows.OpenSpec.upto Rows.sendbufKeepsSpec).at F).post enc Tryd.prog Tryd.f3 false true false false) := by
  refine bulks.returns_of_cond_and (C := Tryd.checked) (s := Rows.OpenSpec.upto Rows.sendbufKeepsSpec) (k := Rows.uptoSmall) (X := fun w _ => laidMetH Tryd.prog [("bytes.ErrTooLarge", Rows.laid_bytes_ErrTooLarge)] w) rfl own started (by kernel_rfl) Tryd.func3
    (bulks.witness_cond_and (enc := enc) (C := Tryd.checked) (os := os) (s := Rows.OpenSpec.upto Rows.sendbufKeepsSpec) (k := Rows.uptoSmall) (X := fun w _ => laidMetH Tryd.prog [("bytes.ErrTooLarge", Rows.laid_bytes_ErrTooLarge)] w) rfl (World.laidAll Tryd.prog os [("bytes.ErrTooLarge", Rows.laid_bytes_ErrTooLarge)]) #[.int .i64 0, .int .u32 0, .slice none 0 0, .slice none 0 0] 8 (World.laidAll_os _ _ _)
      (World.shaped_of_ZipB (by kernel_rfl) (by kernel_rfl)) (by kernel_rfl) (x := ([.lit (.int .i64 0), .lit (.int .u32 0), .nil, .nil], [], [])) (by kernel_rfl) rfl (by kernel_rfl) (by kernel_rfl)
      (by rw [MakeChecks.laidMetH_plain _ _ _ (by kernel_rfl)]; exact laidMet_laidAll _ (by kernel_rfl) (by kernel_rfl))) ?_
  intro W base args ds gs before hval0 hW hk0
  have hval : ∀ (j : Nat) t v, Tryd.f3.params[j]? = some t → args[j]? = some v → Value.okWide Tryd.prog W .any base t v := hval0
  have hW' := hW
  obtain ⟨p, q, hA0, hV, rfl, hfz, hnd⟩ := hW
  have hA : DataW.TrodAll enc Tryd.prog W 0 (fun _ => true) true Tryd.f3.params.toList args.toList ds p := hA0
  rw [Tryd.params3] at hA hval
  obtain ⟨v0, vs0, d0, ds0, p0, q0, hargs, rfl, rfl, h0, r0⟩ := trodAll_cons hA
  obtain ⟨v1, vs1, d1, ds1, p1, q1, rfl, rfl, rfl, h1, r1⟩ := trodAll_cons r0
  obtain ⟨v2, vs2, d2, ds2, p2, q2, rfl, rfl, rfl, h2, r2⟩ := trodAll_cons r1
  obtain ⟨v3, vs3, d3, ds3, p3, q3, rfl, rfl, rfl, h3, r3⟩ := trodAll_cons r2
  obtain ⟨rfl, rfl, rfl⟩ := trodAll_nil r3
  obtain rfl : args = #[v0, v1, v2, v3] := by cases args; simp_all
  obtain ⟨rfl, rfl⟩ := trodVars_none hV
  obtain ⟨a0, rfl, rfl, rfl, w0⟩ := open_int Tryd.underlying3 (hval 0 3 v0 rfl rfl) h0
  obtain ⟨a1, rfl, rfl, rfl, w1⟩ := open_int Tryd.underlying22 (hval 1 22 v1 rfl rfl) h1
  have k2 := h2
  have lt2 : ∀ x ∈ p2, x.block < W.heap.size := by obtain ⟨m, hm⟩ := k2; exact DataW.trod_lt m _ _ _ hm
  have o2 := bulks.arg (bulks.tellsB_slice (P := Tryd.prog) (t := 23) Tryd.underlying23 (by kernel_rfl) (bulks.tellsB_slice Tryd.underlying31 (by kernel_rfl) (bulks.tellsB_int Tryd.underlying5))) hk0 (by simp) h2
  obtain ⟨A2, len2, c2, e2⟩ := okWide_slice Tryd.underlying23 (hval 2 23 v2 rfl rfl)
  subst e2
  obtain ⟨l2, ⟨B2, cc2, ha2, hc2, hr2⟩, y2, z2⟩ := o2
  simp only [Value.cells, List.cons.injEq, Value.slice.injEq, and_true] at ha2
  obtain ⟨rfl, rfl, rfl⟩ := ha2
  have k3 := h3
  have lt3 : ∀ x ∈ p3, x.block < W.heap.size := by obtain ⟨m, hm⟩ := k3; exact DataW.trod_lt m _ _ _ hm
  have o3 := bulks.arg (bulks.tellsB_slice (P := Tryd.prog) (t := 24) Tryd.underlying24 (by kernel_rfl) (bulks.tellsB_int Tryd.underlying3)) hk0 (by simp) h3
  obtain ⟨A3, len3, c3, e3⟩ := okWide_slice Tryd.underlying24 (hval 3 24 v3 rfl rfl)
  subst e3
  obtain ⟨l3, ⟨B3, cc3, ha3, hc3, hr3⟩, y3, z3⟩ := o3
  simp only [Value.cells, List.cons.injEq, Value.slice.injEq, and_true] at ha3
  obtain ⟨rfl, rfl, rfl⟩ := ha3
  have hsum : (l2.map List.length).sum ≤ 1048576 := by
    have e : (l2.map fun (t : List Int) => (t.map fun _ => 1).sum) = l2.map List.length := List.map_congr_left fun t _ => bulks.sum_one t
    rw [← e]; exact z2
  have ha1 : 0 ≤ a1 ∧ a1 < 4294967296 := by
    have h := w1
    simp [Lit.wf, IntKind.min, IntKind.max, IntKind.bits, IntKind.signed] at h
    omega
  have hl3 : ∀ i, i < l3.length → -9223372036854775808 ≤ l3.getD i 0 ∧ l3.getD i 0 ≤ 9223372036854775807 := by
    intro i hi
    rw [List.getD_eq_getElem?_getD, List.getElem?_eq_getElem hi]
    exact Util.wf64 (y3.2 _ (List.getElem_mem hi))
  clear hA0 hval0
  refine (Hand.keeps_calls a0 a1 _ _ l2 _ _ l3 W hr2 hc2 (Kd.reads_of_C (d := (0 : Int)) (h1 := fun _ => rfl) hr3) hc3 hsum ha1 y2.1 hl3).mono fun e W' ⟨he, bel⟩ => ?_
  subst he
  exact ⟨_, rfl, _, _, _, [], _, [], hW', trodAll_mk1 (shut_bool Tryd.underlying4 _), (trodAll_cons_mk (shut_int Tryd.underlying3 w0) (trodAll_cons_mk (shut_int Tryd.underlying22 w1) (trodAll_cons_mk (Below.trod laidOut (by kernel_rfl) (of_decide_eq_true (by kernel_rfl)) k2 bel lt2) (trodAll_cons_mk (Below.trod laidOut (by kernel_rfl) (of_decide_eq_true (by kernel_rfl)) k3 bel lt3) trodAll_mk0)))), rfl, bel.frame _, fun h => by cases h⟩
theorem over : Rows.sendbufKeepsUptoRow.holds Tryd.pinned (Rows.OpenSpec.upto Rows.sendbufKeepsSpec) :=
  OpenClaim.holds_of_cond 3 Tryd.f3 rfl rfl rfl rfl rfl rfl rfl ⟨rfl, rfl, rfl, rfl, rfl⟩ rfl rfl rfl rfl rfl (by kernel_rfl) Tryd.func3 (by kernel_rfl)
    (of_decide_eq_true (by kernel_rfl)) (by unfold Func.isWrapper; first | (rw [if_pos (by decide +kernel)]; kernel_rfl) | (rw [if_neg (by decide +kernel)]; exact ⟨rfl, rfl⟩))
    (fun os started H enc _ F => lifted os started H enc F)
theorem proved : Rows.SendbufKeepsUptoSaid := over
theorem card_holds : Rows.SendbufKeepsUptoCardSaid :=
  Claim7.holds_tied_plain_at .later [] [.sentinel] true (true, "b484c9b15e8030d0978c34206fae59854b8abe1babec8c0b4556974197bee68d") false over (fun _ h => by cases h) (by kernel_rfl) (fun _ h => by cases h) sendbufKeepsUpto_row_tie rfl ⟨rfl, rfl⟩ (by kernel_rfl) rfl
    (fun f fn hf hfn => by
      obtain rfl : f = 3 := Option.some.inj ((show Tryd.prog.funcNamed "stopcock/stopcocklaw15.SendbufKeeps" = some 3 by kernel_rfl).symm.trans hf) |>.symm
      obtain rfl : fn = Tryd.f3 := (Option.some.inj (Tryd.func3.symm.trans hfn)).symm
      exact ⟨by kernel_rfl, fun j t ht => by
        rw [Tryd.params3] at ht
        have hm : t ∈ [3, 22, 23, 24] := by simpa using Array.mem_of_getElem? ht
        have hall : ([3, 22, 23, 24].all fun u => !Tryd.prog.wantsStandIn u) = true := by kernel_rfl
        exact (show Tryd.prog.wantsStandIn t = false by simpa using List.all_eq_true.1 hall t hm)⟩)
    (by kernel_rfl)
#print axioms card_holds
end Go.Proofs.YtiphiacidokhiaaDoor.sendbufKeeps
namespace Go.Proofs.YtiphiacidokhiaaDoor
/-- The row, under a short name, for the claim. -/
theorem sendbufKeeps_holds : Rows.SendbufKeepsUptoCardSaid := sendbufKeeps.card_holds
end Go.Proofs.YtiphiacidokhiaaDoor
