/- The contracts of bytes.Clone and of the reader's take: what they compute, by hand. -/
import Derived.Test.YthfhljdegbcpmaaHandP
import Derived.Test.YthfhljdegbcpmaaPKx1
import Derived.Test.YthfhljdegbcpmaaUtil
import Derived.WalkSpells
import Derived.Laws.BitsLemmas
namespace Go.Proofs.Ythfhljdegbcpmaa.Hand
open Go.RowKit Go.Proofs.YthfhljdegbcpmaaW.PrintWords Go.Proofs.YthfhljdegbcpmaaW.PrintLast Go.Proofs.YthfhljdegbcpmaaW.PrintMore Go.Proofs.Ythfhljdegbcpmaa.PK Go.Proofs.Ythfhljdegbcpmaa.Util
set_option linter.unusedVariables false
set_option linter.unusedSimpArgs false

/-- Octets, as a number. -/
def oct (l : List Int) : Prop := ∀ x ∈ l, 0 ≤ x ∧ x ≤ 255
def big : List Int → Int := List.foldl (fun n x => n * 256 + x) 0
theorem big_snoc (l : List Int) (x : Int) : big (l ++ [x]) = big l * 256 + x := by simp [big]
theorem fold_bd : ∀ (l : List Int) (a : Int), oct l → 0 ≤ a → 0 ≤ List.foldl (fun n x => n * 256 + x) a l ∧ List.foldl (fun n x => n * 256 + x) a l < (a + 1) * 256 ^ l.length
  | [], a, _, h => by simp; omega
  | x :: l, a, ho, h => by
    have hx := ho x (by simp)
    have ih := fold_bd l (a * 256 + x) (fun y hy => ho y (by simp [hy])) (by omega)
    refine ⟨ih.1, Int.lt_of_lt_of_le ih.2 ?_⟩
    rw [List.length_cons, Int.pow_succ, Int.mul_comm (256 ^ l.length) 256, ← Int.mul_assoc]
    exact Int.mul_le_mul_of_nonneg_right (by omega) (Int.pow_nonneg (by decide))
theorem big_bd (l : List Int) (h : oct l) : 0 ≤ big l ∧ big l < 256 ^ l.length := by
  have := fold_bd l 0 h (by decide)
  simpa [big] using this
theorem pow7 : ∀ j : Nat, j ≤ 7 → (256 : Int) ^ j ≤ 72057594037927936 := fun j hj => by
  rcases (by omega : j = 0 ∨ j = 1 ∨ j = 2 ∨ j = 3 ∨ j = 4 ∨ j = 5 ∨ j = 6 ∨ j = 7) with rfl | rfl | rfl | rfl | rfl | rfl | rfl | rfl <;> decide
theorem wrap_u64 (n : Int) : IntKind.u64.wrap n = n % 18446744073709551616 := by simp only [IntKind.wrap, IntKind.bits, IntKind.signed]; rfl
theorem rd_get (l : List Int) (i : Nat) (h : i < l.length) : rd l (i : Int) = l[i] := by simp [rd, List.getD, h]
theorem get_ev (l : List Int) (h : oct l) (h1 : 1 ≤ l.length) (h8 : l.length ≤ 8) : Ev (fun k => octets_Get.f k l) (big l, 0) := by
  have hl : ∀ (d i : Nat), i + d = l.length → Ev (fun k => octets_Get.l0 k (big (l.take i)) l (l.length : Int) (i : Int)) (big l, 0) := by
    intro d
    induction d with
    | zero =>
      intro i hi
      obtain rfl : i = l.length := by omega
      refine evEnd 1 (fun k hk => ?_)
      obtain ⟨m, rfl⟩ : ∃ m, k = m + 1 := ⟨k - 1, by omega⟩
      simp only [octets_Get.l0]
      rw [if_neg (by omega), List.take_of_length_le (Nat.le_refl _)]
    | succ d ih =>
      intro i hi
      refine evStep 0 (fun k _ => ?_) (ih (i + 1) (by omega))
      have hb := big_bd (l.take i) (fun y hy => h y (List.mem_of_mem_take hy))
      have hx := h (l[i]'(by omega)) (List.getElem_mem _)
      have ht : l.take (i + 1) = l.take i ++ [l[i]'(by omega)] := List.take_succ_eq_append_getElem (by omega)
      have hlen : (l.take i).length = i := by rw [List.length_take]; omega
      rw [hlen] at hb
      have hp := pow7 i (by omega)
      simp only [octets_Get.l0]
      rw [if_pos (by omega), if_pos (by omega), if_pos (by omega), rd_get l i (by omega), ht, big_snoc, wrap_u64, wrap_u64, wrap_u64, wrap_id (by omega) (by omega)]
      rw [Int.emod_eq_of_lt (by omega) (by omega), Int.emod_eq_of_lt (by omega) (by omega), Int.emod_eq_of_lt (by omega) (by omega)]
      rfl
  refine evStep 0 (fun k _ => ?_) (hl l.length 0 (by omega))
  show octets_Get.f (k + 1) l = _
  unfold octets_Get.f
  rw [if_neg (by omega), decide_eq_false (by omega)]
  simp only [octets_Get.j0]
  rw [if_neg (by decide)]
  rfl

theorem R_empty (w : World) (t : TypeId) : Kd.R (Kd.int .u8) t (w.alloc (.cells #[] t)) w.heap.size (fun _ => True) (.slice (some ⟨w.heap.size, 0, none⟩) 0 0) [] :=
  Kd.R_of_own ⟨by simp [encs], .inr ⟨w.heap.size, 0, #[], rfl, Nat.le_refl _, blk_new w _, Nat.le_refl _, by unfold maxLen; omega, by simp, by simp [encs]⟩⟩ (fun _ _ => trivial)
set_option maxHeartbeats 4000000 in
set_option maxRecDepth 100000 in
theorem clone_calls (A : Option Addr) (c : Nat) (l : List Int) (w : World) (hr : Kd.C (Kd.int .u8) w A l.length l) (hc : l.length ≤ c) (hs : l.length ≤ 140737488351232) :
    Calls Try.prog 22 #[.slice A l.length c] w fun e w' => ∃ v, e = .returned v ∧ Kd.R (Kd.int .u8) 5 w' w.heap.size (fun _ => True) v l ∧ Below w.heap.size w w' := by
  cases A with
  | none =>
    have hl : l.length = 0 := by
      rcases Nat.eq_zero_or_pos l.length with h | h
      · exact h
      · obtain ⟨ad, hA, _⟩ := Kd.at_int hr 0 (by omega) (by omega)
        cases hA
    obtain rfl := List.eq_nil_of_length_eq_zero hl
    clear hr hc hs hl
    have heq := fun (w : World) => Lib.run_eql_slice_nil (P := Try.prog) w 23 5 none 0 c 0 0 Try.underlying23
    go_enter Try.func22, Try.ntmps22
    go_wp2
    go_ret
    exact ⟨_, rfl, Kd.R_nil _ _ _ _ _, Below.refl _ _⟩
  | some ad =>
    have HR := Aside0.mk hr
    have HC := Aside0.mk hc
    clear hr hc
    obtain ⟨n, hn⟩ : ∃ n, l.length = n := ⟨_, rfl⟩
    rw [hn]
    have HN := Aside0.mk hn
    clear hn
    have heq := fun (w : World) => Lib.run_eql_slice_nil (P := Try.prog) w 23 5 (some ad) n c 0 0 Try.underlying23
    go_enter Try.func22, Try.ntmps22
    go_wp2_with (at_builtin; go_loud (refine Kd.R_append_row (Value.int .u8) (0 : Int) (h1 := fun _ => rfl) (w0 := w) w.heap.size rfl _ _ 23 5 (.int .u8 0) 1 rfl Try.underlying23 info5 rfl (by decide) _ [] l _ n c (fun _ => True) rfl rfl (fun _ _ => trivial) (R_empty w 5) (by have h := Kd.C_below HR.out (below_alloc (Below.refl w.heap.size w) (.cells #[] 5)); rwa [HN.out] at h) (below_alloc (Below.refl _ _) _) (by simp) (by simp; have := HN.out; omega) ?_); intro v' w1 ho hb _ _)
    go_ret
    exact ⟨_, rfl, ho, hb⟩
end Go.Proofs.Ythfhljdegbcpmaa.Hand
