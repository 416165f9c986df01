/- The contract of the reader's take: what it computes, by hand. -/
import Derived.Test.YthfhljdegbcpmaaHandK
import Derived.RangeFuncBox
namespace Go.Proofs.Ythfhljdegbcpmaa.Hand
open Go.RowKit Go.Proofs.YthfhljdegbcpmaaW.PrintWords Go.Proofs.YthfhljdegbcpmaaW.PrintLast Go.Proofs.YthfhljdegbcpmaaW.PrintMore Go.Proofs.Ythfhljdegbcpmaa.PK Go.Proofs.Ythfhljdegbcpmaa.Util
set_option linter.unusedVariables false
set_option linter.unusedSimpArgs false
attribute [local go_sem] Oper.semAt_some

/-- Of w's blocks all but one lie as they lay; none is new. -/
def sameB (g : Nat) (w w' : World) : Prop := w'.heap.size = w.heap.size ∧ ∀ i, i ≠ g → w'.heap[i]? = w.heap[i]?
theorem get_calls (A : Option Addr) (c : Nat) (l : List Int) (n : Nat) (hn : l.length = n) (w : World) (hr : Kd.C (Kd.int .u8) w A l.length l) (hc : n ≤ c) (h : oct l) (h1 : 1 ≤ n) (h8 : n ≤ 8) :
    Calls Try.prog 28 #[.slice A n c] w fun e w' => e = .returned (.tuple #[.int .u64 (big l), .int .i64 0]) ∧ Drawn0 w w' := by
  subst hn
  obtain ⟨k, hk⟩ := get_ev l h h1 h8
  exact octets_Get.calls k A c l _ _ w hr hc (hk k (Nat.le_refl _))
set_option maxHeartbeats 4000000 in
set_option maxRecDepth 100000 in
theorem take_calls (w0 : World) (g : Nat) (A : Option Addr) (c : Nat) (l : List Int) (k : Nat) (hr : Kd.C (Kd.int .u8) w0 A l.length l) (hc : l.length ≤ c) (ho : oct l) (h1 : 1 ≤ k) (h8 : k ≤ 8) (hk : k ≤ l.length)
    (w : World) (hB : Below w0.heap.size w0 w) (hg : w0.heap.size ≤ g) (hb : Boxed w g 53 (.slice A l.length c)) :
    Calls Try.prog 21 #[.pointer (some ⟨g, 0, none⟩), .int .i64 (k : Int)] w fun e w' => e = .returned (.int .u64 (big (l.take k))) ∧
      (∃ A', Boxed w' g 53 (.slice A' (l.drop k).length (c - k)) ∧ Kd.C (Kd.int .u8) w0 A' (l.drop k).length (l.drop k)) ∧ Below w0.heap.size w0 w' ∧ sameB g w w' := by
  have HR := Aside0.mk hr
  have HO := Aside0.mk ho
  have HB := Aside0.mk hB
  have hcell := hb.cell
  have hfr := hb.frozen
  have HX := Aside0.mk hb
  clear hr ho hB hb
  go_enter Try.func21, Try.ntmps21
  go_wp2_with (go_at_call 28; refine (get_calls A c (l.take k) k (by rw [List.length_take]; omega) _ (Kd.C_take (Kd.C_below HR.out HB.out) hk) (by omega) (fun x hx => HO.out x (List.mem_of_mem_take hx)) h1 h8).mono ?_; rintro e w1 ⟨rfl, mc1, rfl⟩)
  all_goals
    go_ret
    refine ⟨rfl, ?_, (pw_below_drewN HB.out mc1).setCell hg _, by simp [World.setCell], fun i hi => Below.heap_setCell _ _ _ _ hi⟩
    have hd := Kd.C_drop (c := c) HR.out hk hc
  · rw [if_pos h] at hd
    have hb2 := Boxed.set (.slice A (l.drop k).length (c - k)) (show Boxed (w.drewN mc1) g 53 _ from HX.out)
    refine ⟨A, ?_, ?_⟩
    · rw [List.length_drop] at hb2; simpa [h] using hb2
    · simpa using hd
  · rw [if_neg h] at hd
    have hb2 := Boxed.set (.slice (A.map (·.add (k * (Kd.int .u8).sz))) (l.drop k).length (c - k)) (show Boxed (w.drewN mc1) g 53 _ from HX.out)
    refine ⟨_, ?_, by simpa using hd⟩
    rw [List.length_drop] at hb2
    have hz : k * (Kd.int .u8).sz = k := Nat.mul_one k
    rw [hz] at hb2
    simpa [hz] using hb2
end Go.Proofs.Ythfhljdegbcpmaa.Hand
