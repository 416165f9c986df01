/- Chapter 8: bytes.Clone, slices.Clone, CopyBytes, CopyInts, the checks of a card's settings. -/
import Derived.Test.YtigmlklcbhlmpaaHandM
import Derived.Lib.SliceRun
namespace Go.Proofs.Ytigmlklcbhlmpaa.Hand
open Go.RowKit Go.Proofs.Ytigmlklcbhlmpaa Go.Proofs.Ytigmlklcbhlmpaa.Util Go.Proofs.YtigmlklcbhlmpaaW.PrintWords Go.Proofs.YtigmlklcbhlmpaaW.PrintLast Go.Proofs.YtigmlklcbhlmpaaW.PrintMore
set_option linter.unusedVariables false
set_option linter.unusedSimpArgs false
attribute [local go_sem] Oper.semAt_some
theorem info5 : (Try.prog.info? 5).map (fun i => (i.zero, i.size, i.bytes)) = some (some (.int .u8 0), 1, 1) := by kernel_rfl
theorem info3 : (Try.prog.info? 3).map (fun i => (i.zero, i.size, i.bytes)) = some (some (.int .i64 0), 1, 8) := by kernel_rfl
theorem info22 : (Try.prog.info? 22).map (fun i => (i.zero, i.size, i.bytes)) = some (some (.slice none 0 0), 1, 24) := by kernel_rfl
theorem own_empty (w : World) (t : TypeId) : (w.alloc (.cells #[] t)).ownsRow w.heap.size t 1 (.slice (some ⟨w.heap.size, 0, none⟩) 0 0) 0 [] :=
  ⟨by simp, .inr ⟨w.heap.size, 0, #[], rfl, Nat.le_refl _, blk_new w _, Nat.le_refl _, by unfold maxLen; omega, by simp, by simp⟩⟩
set_option maxHeartbeats 4000000 in
set_option maxRecDepth 100000 in
theorem bclone (A : Option Addr) (c : Nat) (l : List Int) (w : World) (hr : ReadsInt w .u8 A l.length l) (hc : l.length ≤ c) (hs : l.length * 1 ≤ 140737488351232) :
    Calls Try.prog 33 #[.slice A l.length c] w fun e w' => ∃ v, e = .returned v ∧ w'.ownsRow w.heap.size 5 1 v l.length (nums .u8 l) ∧ Below w.heap.size w w' := by
  cases A with
  | none =>
    have hl : l.length = 0 := by
      rcases Nat.eq_zero_or_pos l.length with h | h
      · exact h
      · obtain ⟨ad, hA, _⟩ := hr.2.2 h
        cases hA
    obtain rfl := List.eq_nil_of_length_eq_zero hl
    clear hr hc hs hl
    have heq := fun (w : World) => Lib.run_eql_slice_nil (P := Try.prog) w 22 5 none 0 c 0 0 Try.underlying22
    go_enter Try.func33, Try.ntmps33
    go_wp2
    go_ret
    exact ⟨_, rfl, own_nil _ _ _ _, Below.refl _ _⟩
  | some ad =>
    have HR := Aside0.mk hr
    have HC := Aside0.mk hc
    clear hr hc
    obtain ⟨n, hn⟩ : ∃ n, l.length = n := ⟨_, rfl⟩
    rw [hn]
    rw [hn] at hs
    have HN := Aside0.mk hn
    clear hn
    have heq := fun (w : World) => Lib.run_eql_slice_nil (P := Try.prog) w 22 5 (some ad) n c 0 0 Try.underlying22
    go_enter Try.func33, Try.ntmps33
    go_wp2_with (at_builtin; go_loud (refine print_append_row (w0 := w) w.heap.size rfl _ _ 22 5 .u8 1 rfl Try.underlying22 info5 (by decide) _ [] l (some ad) n c rfl rfl (own_empty w 5) (by have h := HR.out.below (below_alloc (Below.refl w.heap.size w) (.cells #[] 5)); rwa [HN.out] at h) (below_alloc (Below.refl _ _) _) (by simp) (by simp; omega) ?_); intro v' w1 ho hb _ _)
    go_ret
    rw [List.nil_append, HN.out] at ho
    exact ⟨_, rfl, ho, hb⟩
set_option maxHeartbeats 4000000 in
set_option maxRecDepth 100000 in
theorem iclone (A : Option Addr) (c : Nat) (l : List Int) (w : World) (hr : ReadsInt w .i64 A l.length l) (hc : l.length ≤ c) (hs : l.length * 8 ≤ 140737488351232) :
    Calls Try.prog 34 #[.slice A l.length c] w fun e w' => ∃ v, e = .returned v ∧ w'.ownsRow w.heap.size 3 1 v l.length (nums .i64 l) ∧ Below w.heap.size w w' := by
  cases A with
  | none =>
    have hl : l.length = 0 := by
      rcases Nat.eq_zero_or_pos l.length with h | h
      · exact h
      · obtain ⟨ad, hA, _⟩ := hr.2.2 h
        cases hA
    obtain rfl := List.eq_nil_of_length_eq_zero hl
    clear hr hc hs hl
    have heq := fun (w : World) => Lib.run_eql_slice_nil (P := Try.prog) w 23 3 none 0 c 0 0 Try.underlying23
    go_enter Try.func34, Try.ntmps34
    go_wp2
    go_ret
    exact ⟨_, rfl, own_nil _ _ _ _, Below.refl _ _⟩
  | some ad =>
    have HR := Aside0.mk hr
    have HC := Aside0.mk hc
    clear hr hc
    obtain ⟨n, hn⟩ : ∃ n, l.length = n := ⟨_, rfl⟩
    rw [hn]
    rw [hn] at hs
    have HN := Aside0.mk hn
    clear hn
    have heq := fun (w : World) => Lib.run_eql_slice_nil (P := Try.prog) w 23 3 (some ad) n c 0 0 Try.underlying23
    go_enter Try.func34, Try.ntmps34
    go_wp2_with (at_builtin; go_loud (refine print_append_row (w0 := w) w.heap.size rfl _ _ 23 3 .i64 8 rfl Try.underlying23 info3 (by decide) _ [] l (some ad) n c rfl rfl (own_empty w 3) (by have h := HR.out.below (below_alloc (Below.refl w.heap.size w) (.cells #[] 3)); rwa [HN.out] at h) (below_alloc (Below.refl _ _) _) (by simp) (by simp; omega) ?_); intro v' w1 ho hb _ _)
    go_ret
    rw [List.nil_append, HN.out] at ho
    exact ⟨_, rfl, ho, hb⟩
set_option maxHeartbeats 4000000 in
set_option maxRecDepth 100000 in
theorem bcopy (A : Option Addr) (c : Nat) (l : List Int) (w : World) (hr : ReadsInt w .u8 A l.length l) (hc : l.length ≤ c) (hs : l.length * 1 ≤ 140737488351232) :
    Calls Try.prog 22 #[.slice A l.length c] w fun e w' => ∃ v, e = .returned v ∧ w'.ownsRow w.heap.size 5 1 v l.length (nums .u8 l) ∧ Below w.heap.size w w' := by
  have HR := Aside0.mk hr
  have HC := Aside0.mk hc
  clear hr hc
  obtain ⟨n, hn⟩ : ∃ n, l.length = n := ⟨_, rfl⟩
  rw [hn]
  rw [hn] at hs
  have HN := Aside0.mk hn
  clear hn
  go_enter Try.func22, Try.ntmps22
  go_wp2_with (at_builtin; go_loud (refine print_append_row (w0 := w) w.heap.size rfl _ _ 22 5 .u8 1 rfl Try.underlying22 info5 (by decide) _ [] l A n c rfl rfl (own_nil _ _ _ _) (by have h := HR.out; rwa [HN.out] at h) (Below.refl _ _) (Nat.le_refl _) (by simp; omega) ?_); intro v' w1 ho hb _ _)
  go_ret
  rw [List.nil_append, HN.out] at ho
  exact ⟨_, rfl, ho, hb⟩
set_option maxHeartbeats 4000000 in
set_option maxRecDepth 100000 in
theorem icopy (A : Option Addr) (c : Nat) (l : List Int) (w : World) (hr : ReadsInt w .i64 A l.length l) (hc : l.length ≤ c) (hs : l.length * 8 ≤ 140737488351232) :
    Calls Try.prog 27 #[.slice A l.length c] w fun e w' => ∃ v, e = .returned v ∧ w'.ownsRow w.heap.size 3 1 v l.length (nums .i64 l) ∧ Below w.heap.size w w' := by
  have HR := Aside0.mk hr
  have HC := Aside0.mk hc
  clear hr hc
  obtain ⟨n, hn⟩ : ∃ n, l.length = n := ⟨_, rfl⟩
  rw [hn]
  rw [hn] at hs
  have HN := Aside0.mk hn
  clear hn
  go_enter Try.func27, Try.ntmps27
  go_wp2_with (at_builtin; go_loud (refine print_append_row (w0 := w) w.heap.size rfl _ _ 23 3 .i64 8 rfl Try.underlying23 info3 (by decide) _ [] l A n c rfl rfl (own_nil _ _ _ _) (by have h := HR.out; rwa [HN.out] at h) (Below.refl _ _) (Nat.le_refl _) (by simp; omega) ?_); intro v' w1 ho hb _ _)
  go_ret
  rw [List.nil_append, HN.out] at ho
  exact ⟨_, rfl, ho, hb⟩
/-- May the key and the table be? -/
def kt (n : Nat) (T : List Int) : Int := if n ≠ 40 then 3 else if T.length ≠ 128 then 3 else if outT T = true then 4 else 0
set_option maxHeartbeats 1000000 in
theorem table_calls (A : Option Addr) (c : Nat) (T : List Int) (w : World) (hr : ReadsInt w .i64 A T.length T) (hc : T.length ≤ c) :
    Calls Try.prog 43 #[.slice A T.length c] w fun e w' => e = .returned (.int .i64 (if T.length ≠ 128 then 3 else if outT T = true then 4 else 0)) ∧ w = w' := by
  refine check_calls A c T _ w (Kd.C_of_reads (d := (0 : Int)) (h1 := fun _ => rfl) (readsInt_of.1 hr)) hc ?_
  unfold checkT
  by_cases h : T.length = 128
  · have h1 : ¬ ((T.length : Int) ≠ 128) := by omega
    have h2 : ¬ (T.length ≠ 128) := by omega
    rw [if_neg h1, if_neg h2]; split <;> rfl
  · have h1 : ((T.length : Int) ≠ 128) := by omega
    rw [if_pos h1, if_pos h]
set_option maxHeartbeats 1000000 in
theorem kt_calls (K : Option Addr) (nk ck : Nat) (A : Option Addr) (c : Nat) (T : List Int) (w : World) (hr : ReadsInt w .i64 A T.length T) (hc : T.length ≤ c) :
    Calls Try.prog 38 #[.slice K nk ck, .slice A T.length c] w fun e w' => e = .returned (.int .i64 (kt nk T)) ∧ w = w' := by
  unfold kt
  have HT := Aside0.mk (table_calls A c T w hr hc)
  clear hr hc
  generalize (if T.length ≠ 128 then (3 : Int) else if outT T = true then 4 else 0) = r at HT ⊢
  by_cases h : nk = 40
  · subst h
    rw [if_neg (by simp)]
    go_enter Try.func38, Try.ntmps38
    go_wp2_with (go_at_call 43; refine HT.out.mono ?_; rintro x w1 ⟨rfl, rfl⟩)
    go_ret
    exact ⟨rfl, rfl⟩
  · rw [if_pos h]
    have h' : ¬ (nk : Int) = 40 := by omega
    go_enter Try.func38, Try.ntmps38
    go_wp2
    go_ret
    exact ⟨rfl, rfl⟩
/-- May settings be? -/
def cf (n : Nat) (T : List Int) (size every : Int) : Int := if kt n T ≠ 0 then kt n T else if size < 1 ∨ size > 4096 ∨ every < 1 ∨ every > 1048576 then 121 else 0
set_option maxHeartbeats 1000000 in
theorem cf_calls (K : Option Addr) (nk ck : Nat) (A : Option Addr) (c : Nat) (T : List Int) (size every : Int) (w : World) (hr : ReadsInt w .i64 A T.length T) (hc : T.length ≤ c) :
    Calls Try.prog 23 #[.agg #[.slice K nk ck, .slice A T.length c, .int .i64 size, .int .i64 every]] w fun e w' => e = .returned (.int .i64 (cf nk T size every)) ∧ Below w.heap.size w w' := by
  obtain ⟨r, hr'⟩ : ∃ r, kt nk T = r := ⟨_, rfl⟩
  have HT : Aside0 (∀ w1, Below w.heap.size w w1 → Calls Try.prog 38 #[.slice K nk ck, .slice A T.length c] w1 fun e w' => e = .returned (.int .i64 r) ∧ w1 = w') := ⟨fun w1 hb => by have := kt_calls K nk ck A c T w1 (hr.below hb) hc; rwa [hr'] at this⟩
  unfold cf
  rw [hr']
  clear hr hc hr'
  have hB := below_alloc (Below.refl w.heap.size w) (.cells #[.slice K nk ck, .slice A T.length c, .int .i64 size, .int .i64 every] 29)
  have HB := Aside0.mk hB
  clear hB
  by_cases h0 : r = 0
  · subst h0
    rw [if_neg (by simp)]
    by_cases h1 : size < 1
    · rw [if_pos (Or.inl h1)]
      go_enter Try.func23, Try.ntmps23
      go_wp2_with (go_at_call 38; refine (HT.out _ HB.out).mono ?_; rintro x w1 ⟨rfl, rfl⟩)
      go_ret
      exact ⟨rfl, HB.out⟩
    · by_cases h2 : size > 4096
      · rw [if_pos (by omega)]
        go_enter Try.func23, Try.ntmps23
        go_wp2_with (go_at_call 38; refine (HT.out _ HB.out).mono ?_; rintro x w1 ⟨rfl, rfl⟩)
        go_ret
        exact ⟨rfl, HB.out⟩
      · by_cases h3 : every < 1
        · rw [if_pos (by omega)]
          go_enter Try.func23, Try.ntmps23
          go_wp2_with (go_at_call 38; refine (HT.out _ HB.out).mono ?_; rintro x w1 ⟨rfl, rfl⟩)
          go_ret
          exact ⟨rfl, HB.out⟩
        · by_cases h4 : every > 1048576
          · rw [if_pos (by omega)]
            go_enter Try.func23, Try.ntmps23
            go_wp2_with (go_at_call 38; refine (HT.out _ HB.out).mono ?_; rintro x w1 ⟨rfl, rfl⟩)
            go_ret
            exact ⟨rfl, HB.out⟩
          · rw [if_neg (by omega)]
            go_enter Try.func23, Try.ntmps23
            go_wp2_with (go_at_call 38; refine (HT.out _ HB.out).mono ?_; rintro x w1 ⟨rfl, rfl⟩)
            go_ret
            exact ⟨rfl, HB.out⟩
  · rw [if_pos h0]
    go_enter Try.func23, Try.ntmps23
    go_wp2_with (go_at_call 38; refine (HT.out _ HB.out).mono ?_; rintro x w1 ⟨rfl, rfl⟩)
    go_ret
    exact ⟨rfl, HB.out⟩
end Go.Proofs.Ytigmlklcbhlmpaa.Hand
