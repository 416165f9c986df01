-- Written by a program of this session (wip/tools/mkprint.py, mp.sh) for this claim.
import Derived.Test.YtpadboidkpembaaPAx0
import Derived.Test.YtpadboidkpembaaPAx9
namespace Go.Proofs.Ytpadboidkpembaa.PA
open Go.RowKit Go.Proofs.YtpadboidkpembaaW.PrintWords Go.Proofs.YtpadboidkpembaaW.PrintLast Go.Proofs.YtpadboidkpembaaW.PrintMore
attribute [local go_sem] max2_int min2_int max_two min_two max_three min_three max_four min_four   -- for this text's walks alone
set_option linter.unusedVariables false
set_option linter.unusedSimpArgs false

/-! ### stopcockref01_Unhex: function 17 -/
mutual
def stopcockref01_Unhex.l0 : Nat → ByteArray → Int → Option (List Int × Int × Int)
  | 0, _, _ => none
  | k + 1, x0, x5 => if x5 < (x0.size : Int) then (if 0 ≤ x5 then ((stopcockref01_value.f k (bt x0 x5)).bind fun t184 => (if t184 < 0 then (some (([] : List Int), 11, x5)) else (stopcockref01_Unhex.l0 k x0 (wrap64 (x5 + 1))))) else (none)) else (if ((x0.size : Int) % 2) = 1 then (some (([] : List Int), 3, (x0.size : Int))) else (stopcockref01_Unhex.l1 k x0 ([] : List Int) 0))
def stopcockref01_Unhex.l1 : Nat → ByteArray → List Int → Int → Option (List Int × Int × Int)
  | 0, _, _, _ => none
  | k + 1, x0, x6, x7 => if x7 < (x0.size : Int) then (if 0 ≤ x7 then ((stopcockref01_value.f k (bt x0 x7)).bind fun t185 => (if 0 ≤ (wrap64 (x7 + 1)) then (if (wrap64 (x7 + 1)) < (x0.size : Int) then ((stopcockref01_value.f k (bt x0 (wrap64 (x7 + 1)))).bind fun t186 => (if x6.length < 140737488355328 then (stopcockref01_Unhex.l1 k x0 (x6 ++ [(wrap64 ((wrap64 (t185 * 16)) + t186)) % 256]) (wrap64 (x7 + 2))) else (none))) else (none)) else (none))) else (none)) else (some (x6, 0, (x0.size : Int)))
end
def stopcockref01_Unhex.f (k : Nat) (a0 : ByteArray) : Option (List Int × Int × Int) := stopcockref01_Unhex.l0 k a0 0
theorem stopcockref01_Unhex.mono_l : ∀ k, (∀ y0 y1, LeO (stopcockref01_Unhex.l0 k y0 y1) (stopcockref01_Unhex.l0 (k + 1) y0 y1)) ∧ (∀ y0 y1 y2, LeO (stopcockref01_Unhex.l1 k y0 y1 y2) (stopcockref01_Unhex.l1 (k + 1) y0 y1 y2))
  | 0 => ⟨fun _ _ r h => by simp [stopcockref01_Unhex.l0] at h, fun _ _ _ r h => by simp [stopcockref01_Unhex.l1] at h⟩
  | k + 1 => by
    obtain ⟨ih0, ih1⟩ := stopcockref01_Unhex.mono_l k; refine ⟨?_, ?_⟩
    · intro y0 y1
      unfold stopcockref01_Unhex.l0
      repeat' first
      | (with_reducible exact ih0 _ _)
      | (with_reducible exact ih1 _ _ _)
      | (with_reducible exact stopcockref01_value.mono _ _)
      | (with_reducible exact LeO.refl _)
      | (with_reducible exact LeO.none _)
      | (with_reducible refine LeO.ite ?_ ?_)
      | (with_reducible refine LeO.bind ?_ (fun _ => ?_))
      | exact ih0 _ _
      | exact ih1 _ _ _
      | exact stopcockref01_value.mono _ _
      | exact LeO.none _
      | refine LeO.ite ?_ ?_
      | refine LeO.bind ?_ (fun _ => ?_)
    · intro y0 y1 y2
      unfold stopcockref01_Unhex.l1
      repeat' first
      | (with_reducible exact ih0 _ _)
      | (with_reducible exact ih1 _ _ _)
      | (with_reducible exact stopcockref01_value.mono _ _)
      | (with_reducible exact LeO.refl _)
      | (with_reducible exact LeO.none _)
      | (with_reducible refine LeO.ite ?_ ?_)
      | (with_reducible refine LeO.bind ?_ (fun _ => ?_))
      | exact ih0 _ _
      | exact ih1 _ _ _
      | exact stopcockref01_value.mono _ _
      | exact LeO.none _
      | refine LeO.ite ?_ ?_
      | refine LeO.bind ?_ (fun _ => ?_)
theorem stopcockref01_Unhex.mono : ∀ a0 k, LeO (stopcockref01_Unhex.f k a0) (stopcockref01_Unhex.f (k + 1) a0) := by
  intro a0 k; obtain ⟨ih0, ih1⟩ := stopcockref01_Unhex.mono_l k
  unfold stopcockref01_Unhex.f
  repeat' first
      | (with_reducible exact ih0 _ _)
      | (with_reducible exact ih1 _ _ _)
      | (with_reducible exact stopcockref01_value.mono _ _)
      | (with_reducible exact LeO.refl _)
      | (with_reducible exact LeO.none _)
      | (with_reducible refine LeO.ite ?_ ?_)
      | (with_reducible refine LeO.bind ?_ (fun _ => ?_))
      | exact ih0 _ _
      | exact ih1 _ _ _
      | exact stopcockref01_value.mono _ _
      | exact LeO.none _
      | refine LeO.ite ?_ ?_
      | refine LeO.bind ?_ (fun _ => ?_)
def stopcockref01_Unhex.T12 : Bool × List (List Nat × List Nat) := (true, [([], []), ([], []), ([], []), ([1, 2], [1, 2]), ([3], [3]), ([4], [4]), ([], []), ([], []), ([7], [7]), ([6, 8], [6, 8]), ([9, 4], [9]), ([5, 10], [5, 10]), ([11], [11]), ([12], [12]), ([0, 13, 10], [0, 13]), ([14, 14, 0, 1, 2, 3, 4, 5, 6, 7, 8, 9, 10, 11, 12, 13, 14], [0, 14])])
def stopcockref01_Unhex.B12 : List Nat := [0, 0, 0, 6, 14, 30, 0, 0, 128, 448, 990, 2046, 4094, 8190, 16383, 32767]
theorem stopcockref01_Unhex.tab12 : rtab .any (opsOf Try.f17 12) = stopcockref01_Unhex.T12 := by kernel_rfl
theorem stopcockref01_Unhex.bits12 : waitsOk stopcockref01_Unhex.T12.2 stopcockref01_Unhex.B12 = true := by kernel_rfl
set_option maxHeartbeats 8000000 in
set_option maxRecDepth 100000 in
theorem stopcockref01_Unhex.calls (k : Nat) (a0 : ByteArray) (r1 : List Int) (r2 : Int) (r3 : Int) (w : World) (h : stopcockref01_Unhex.f k a0 = some (r1, r2, r3)) :
    Calls Try.prog 17 #[.string a0] w fun e w' => ∃ v0_ : Value, e = .returned (.tuple #[v0_, .int .i64 r2, .int .i64 r3]) ∧ Kd.R (Kd.int .u8) 5 w' w.heap.size (fun _ => True) v0_ r1 ∧ Below w.heap.size w w' := by
  have HB := Aside0.mk (Below.refl w.heap.size w); have H : (stopcockref01_Unhex.l0 k a0 0) = some (r1, r2, r3) := h; clear h; have H' := Aside0.mk H; clear H
  go_enter Try.func17, Try.ntmps17
  go_wp2
  go_loopg [5] k (fun kq v5 w' => ∃ (x5_1 : Int), v5 = .int .i64 x5_1 ∧ Aside0 (stopcockref01_Unhex.l0 kq a0 x5_1 = some (r1, r2, r3)) ∧ Aside0 (kq ≤ k) ∧ Aside0 (Below w.heap.size w w'))
  case atStart => exact ⟨(0), (by first | rfl | (simp; done) | (simp [*]; done)), H', ⟨Nat.le_refl _⟩, ⟨by exact bel0 HB.out⟩⟩
  case round =>
    clear H'
    try clear c1
    obtain ⟨x5_1, rfl, HA, HK1, HB⟩ := hrel
    cases gk with
    | zero => exact absurd HA.out (by simp [stopcockref01_Unhex.l0])
    | succ k1 =>
      have H := HA.out; clear HA
      simp only [stopcockref01_Unhex.l0] at H
      by_cases c2 : x5_1 < (a0.size : Int)
      · rw [if_pos c2] at H
        have c2b0 : decide (x5_1 < (a0.size : Int)) = true := decide_eq_true c2; clear c2
        by_cases c3 : 0 ≤ x5_1
        · rw [if_pos c3] at H
          have c3b0 : decide (0 ≤ x5_1) = true := decide_eq_true c3; clear c3; replace H := Option.bind_eq_some_iff.mp H; obtain ⟨t184, A50, H⟩ := H; replace H : (if t184 < 0 then (some (([] : List Int), 11, x5_1)) else (stopcockref01_Unhex.l0 k1 a0 (wrap64 (x5_1 + 1)))) = some (r1, r2, r3) := H; have A5 := Aside0.mk A50; clear A50
          by_cases c6 : t184 < 0
          · rw [if_pos c6] at H
            have c6b0 : decide (t184 < 0) = true := decide_eq_true c6; clear c6
            simp only [Option.some.injEq, Prod.mk.injEq] at H
            obtain ⟨rfl, rfl, rfl⟩ := H; have p4 : 0 ≤ (x5_1 : Int) := of_decide_eq_true (by first | (with_reducible assumption) | assumption); have q4 : x5_1 < (a0.size : Int) := of_decide_eq_true (by first | (with_reducible assumption) | assumption); have hx4 := bt_at a0 x5_1; replace p4 := eq_true p4; replace q4 := eq_true q4
            go_wp2_with (first | ((with_reducible refine gate_callee (f := 28) rfl ?_); refine goesL_ (some 17) rfl rfl Try.func28 (by kernel_rfl) rfl #[.int .u8 (bt a0 x5_1)] rfl (by (try simp only [List.map_toArray, List.map_cons, List.map_nil]); first | done | rfl | (simp only [List.length_drop, List.length_take]; rfl)) ?_; (with_reducible refine (stopcockref01_value.calls k1 (bt a0 x5_1) t184 _ A5.out).mono ?_); rintro e w' ⟨rfl, ⟨nd, rfl⟩⟩; refine ⟨_, rfl, ?_⟩))
            go_ret3
            exact ⟨_, by first | rfl | (simp [errW_none, errW_some] <;> rfl) | (simp [*, errW_none, errW_some] <;> rfl), by first | exact Kd.R_nil _ _ _ _ _ | exact Kd.N_nil _ _ _ _ _ | exact Kd.V_nil _ _ _ _ _ | exact Kd.Q_nil _ _ _ _ _ | exact Kd.S_nil _ _ _ _ _, by exact bel0 HB.out⟩
          rw [if_neg c6] at H; have c6b0 : decide (t184 < 0) = false := decide_eq_false c6; clear c6; have H' := Aside0.mk H; clear H; have p4 : 0 ≤ (x5_1 : Int) := of_decide_eq_true (by first | (with_reducible assumption) | assumption); have q4 : x5_1 < (a0.size : Int) := of_decide_eq_true (by first | (with_reducible assumption) | assumption); have hx4 := bt_at a0 x5_1; replace p4 := eq_true p4; replace q4 := eq_true q4
          go_wp2_with (first | ((with_reducible refine gate_callee (f := 28) rfl ?_); refine goesL_ (some 17) rfl rfl Try.func28 (by kernel_rfl) rfl #[.int .u8 (bt a0 x5_1)] rfl (by (try simp only [List.map_toArray, List.map_cons, List.map_nil]); first | done | rfl | (simp only [List.length_drop, List.length_take]; rfl)) ?_; (with_reducible refine (stopcockref01_value.calls k1 (bt a0 x5_1) t184 _ A5.out).mono ?_); rintro e w' ⟨rfl, ⟨nd, rfl⟩⟩; refine ⟨_, rfl, ?_⟩))
          go_roundg k1
          case measure => have := HK1.out; omega
          case rel => exact ⟨(wrap64 (x5_1 + 1)), (by first | rfl | (simp; done) | (simp [*]; done)), H', ⟨by have := HK1.out; omega⟩, ⟨by exact bel0 HB.out⟩⟩
        rw [if_neg c3] at H; exact absurd H (by simp)
      rw [if_neg c2] at H; have c2b0 : decide (x5_1 < (a0.size : Int)) = false := decide_eq_false c2; clear c2
      by_cases c7 : ((a0.size : Int) % 2) = 1
      · rw [if_pos c7] at H
        have c7b0 : (((a0.size : Int) % 2) == 1) = true := beq_iff_eq.mpr c7; have c7b1 : (((a0.size : Int) % 2) != 1) = false := bne_eq_false_iff_eq.mpr c7; clear c7
        simp only [Option.some.injEq, Prod.mk.injEq] at H
        obtain ⟨rfl, rfl, rfl⟩ := H
        go_wp2
        go_ret3
        exact ⟨_, by first | rfl | (simp [errW_none, errW_some] <;> rfl) | (simp [*, errW_none, errW_some] <;> rfl), by first | exact Kd.R_nil _ _ _ _ _ | exact Kd.N_nil _ _ _ _ _ | exact Kd.V_nil _ _ _ _ _ | exact Kd.Q_nil _ _ _ _ _ | exact Kd.S_nil _ _ _ _ _, by exact bel0 HB.out⟩
      rw [if_neg c7] at H; have c7b0 : (((a0.size : Int) % 2) == 1) = false := beq_eq_false_iff_ne.mpr c7; have c7b1 : (((a0.size : Int) % 2) != 1) = true := bne_iff_ne.mpr c7; have H' := Aside0.mk H; clear H
      go_wp2
      go_loopg [6, 7] k1 (fun kq v6 v7 w' => ∃ (x6_2 : List Int) (x7_2 : Int), v7 = .int .i64 x7_2 ∧ Aside0 (stopcockref01_Unhex.l1 kq a0 x6_2 x7_2 = some (r1, r2, r3)) ∧ Aside0 (kq ≤ k1) ∧ Aside0 (Kd.R (Kd.int .u8) 5 w' w.heap.size (fun _ => True) v6 x6_2) ∧ Aside0 (Below w.heap.size w w'))
      case atStart => exact ⟨(([] : List Int)), (0), (by first | rfl | (simp; done) | (simp [*]; done)), H', ⟨Nat.le_refl _⟩, ⟨by first | exact Kd.R_nil _ _ _ _ _ | exact Kd.N_nil _ _ _ _ _ | exact Kd.V_nil _ _ _ _ _ | exact Kd.Q_nil _ _ _ _ _ | exact Kd.S_nil _ _ _ _ _⟩, ⟨by exact bel0 HB.out⟩⟩
      case round =>
        clear H'
        try clear c1
        try clear c2
        try clear c2b0
        try clear p2
        try clear c3
        try clear c3b0
        try clear p4
        try clear q4
        try clear hx4
        try clear c6
        try clear c6b0
        try clear p6
        try clear c7
        try clear c7b0
        try clear c7b1
        try clear p4
        try clear q4
        obtain ⟨x6_2, x7_2, rfl, HA, HK2, HO_6, HB⟩ := hrel
        cases gk with
        | zero => exact absurd HA.out (by simp [stopcockref01_Unhex.l1])
        | succ k2 =>
          have H := HA.out; clear HA
          simp only [stopcockref01_Unhex.l1] at H
          by_cases c8 : x7_2 < (a0.size : Int)
          · rw [if_pos c8] at H
            have c8b0 : decide (x7_2 < (a0.size : Int)) = true := decide_eq_true c8; clear c8
            by_cases c9 : 0 ≤ x7_2
            · rw [if_pos c9] at H
              have c9b0 : decide (0 ≤ x7_2) = true := decide_eq_true c9; clear c9; replace H := Option.bind_eq_some_iff.mp H; obtain ⟨t185, A110, H⟩ := H; replace H : (if 0 ≤ (wrap64 (x7_2 + 1)) then (if (wrap64 (x7_2 + 1)) < (a0.size : Int) then ((stopcockref01_value.f k2 (bt a0 (wrap64 (x7_2 + 1)))).bind fun t186 => (if x6_2.length < 140737488355328 then (stopcockref01_Unhex.l1 k2 a0 (x6_2 ++ [(wrap64 ((wrap64 (t185 * 16)) + t186)) % 256]) (wrap64 (x7_2 + 2))) else (none))) else (none)) else (none)) = some (r1, r2, r3) := H; have A11 := Aside0.mk A110; clear A110; obtain ⟨ji12, hji12⟩ : ∃ j_ : Int, (wrap64 (x7_2 + 1)) = j_ := ⟨_, rfl⟩; replace H : (if 0 ≤ (ji12) then (if (ji12) < (a0.size : Int) then ((stopcockref01_value.f k2 (bt a0 (ji12))).bind fun t186 => (if x6_2.length < 140737488355328 then (stopcockref01_Unhex.l1 k2 a0 (x6_2 ++ [(wrap64 ((wrap64 (t185 * 16)) + t186)) % 256]) (wrap64 (x7_2 + 2))) else (none))) else (none)) else (none)) = some (r1, r2, r3) := by first | (rw [hji12] at H; exact H) | (simp only [hji12] at H ⊢; exact H)
              (try rw [hji12] at A11)
              have hji12w : (IntKind.i64.wrap (x7_2 + 1)) = ji12 := (i64_w _).trans hji12
              by_cases c13 : 0 ≤ (ji12)
              · rw [if_pos c13] at H
                have c13b0 : decide (0 ≤ (ji12)) = true := decide_eq_true c13; clear c13
                by_cases c14 : (ji12) < (a0.size : Int)
                · rw [if_pos c14] at H
                  have c14b0 : decide ((ji12) < (a0.size : Int)) = true := decide_eq_true c14; clear c14; replace H := Option.bind_eq_some_iff.mp H; obtain ⟨t186, A160, H⟩ := H; replace H : (if x6_2.length < 140737488355328 then (stopcockref01_Unhex.l1 k2 a0 (x6_2 ++ [(wrap64 ((wrap64 (t185 * 16)) + t186)) % 256]) (wrap64 (x7_2 + 2))) else (none)) = some (r1, r2, r3) := H; have A16 := Aside0.mk A160; clear A160
                  by_cases c17 : x6_2.length < 140737488355328
                  · rw [if_pos c17] at H
                    have LMc17 := Aside0.mk c17; clear c17; obtain ⟨y187, hy187⟩ : ∃ y_ : List Int, y_ = (x6_2 ++ [(wrap64 ((wrap64 (t185 * 16)) + t186)) % 256]) := ⟨_, rfl⟩; replace H : (stopcockref01_Unhex.l1 k2 a0 y187 (wrap64 (x7_2 + 2))) = some (r1, r2, r3) := by first | (rw [hy187]; with_reducible exact H) | (have H2_ := (Option.bind_some _ _).symm.trans H; rw [hy187]; with_reducible exact H2_) | (have H2_ := (Option.bind_some _ _).symm.trans H; with_reducible exact H2_) | with_reducible exact H | (rw [hy187]; exact H) | exact H
                    have Ny187 := Aside0.mk hy187; clear hy187; have H' := Aside0.mk H; clear H
                    try go_wp2
                    have n0_ := Aside0.mk (Kd.R_drew HO_6.out); have n1_ := Aside0.mk (below_drew1 HB.out); clear HO_6; clear HB; have HO_6 := n0_; have HB := n1_; clear n0_ n1_; have p10 : 0 ≤ (x7_2 : Int) := of_decide_eq_true (by first | (with_reducible assumption) | assumption); have q10 : x7_2 < (a0.size : Int) := of_decide_eq_true (by first | (with_reducible assumption) | assumption); have hx10 := bt_at a0 x7_2; replace p10 := eq_true p10; replace q10 := eq_true q10; have p15 : 0 ≤ ((ji12) : Int) := of_decide_eq_true (by first | (with_reducible assumption) | assumption); have q15 : (ji12) < (a0.size : Int) := of_decide_eq_true (by first | (with_reducible assumption) | assumption); have hx15 := bt_at a0 (ji12); replace p15 := eq_true p15; replace q15 := eq_true q15; refine start_ (n := 16) (S := fun w' => True) (ds := []) (bs 16 0) (by kernel_rfl) rfl rfl trivial (fun hHeld => ?_); refine with_tabW stopcockref01_Unhex.tab12 stopcockref01_Unhex.bits12 (fun HT_ HW_ => ?_); generalize wr.drew = w18 at HO_6 HB hHeld ⊢; refine pu_ (i := 0) (N := some 32) (v := ?_) (a' := ?_) (bs 16 1) rfl rfl HT_.out (by kernel_rfl) (fun _ _ _ h => h) ⟨by rfl, ?_⟩ ?_ ?_; rotate_left; (intro w'; go_simp; with_reducible rfl); rotate_left; (simp only [Act.put, q1_, q2_, q3_, i64_w, i32_w]; rfl); refine pu_ (i := 1) (N := some 33) (v := ?_) (a' := ?_) (bs 16 3) rfl rfl HT_.out (by kernel_rfl) (fun _ _ _ h => h) ⟨by rfl, ?_⟩ ?_ ?_; rotate_left; (intro w'; go_simp; with_reducible rfl); rotate_left; (simp only [Act.put, q1_, q2_, q3_, i64_w, i32_w]; rfl)
                    refine pu_ (i := 2) (N := some 34) (v := ?_) (a' := ?_) (bs 16 7) rfl rfl HT_.out (by kernel_rfl) (fun _ _ _ h => h) ⟨by rfl, ?_⟩ ?_ ?_; rotate_left; (intro w'; go_simp; with_reducible rfl); rotate_left; (simp only [Act.put, q1_, q2_, q3_, i64_w, i32_w]; rfl); refine pu_ (i := 6) (N := some 38) (v := ?_) (a' := ?_) (bs 16 71) rfl rfl HT_.out (by kernel_rfl) (fun _ _ _ h => h) ⟨by rfl, ?_⟩ ?_ ?_; rotate_left; (intro w'; go_simp; with_reducible rfl); rotate_left; (simp only [Act.put, q1_, q2_, q3_, i64_w, i32_w]; rfl); refine pu_ (i := 7) (N := some 39) (v := ?_) (a' := ?_) (bs 16 199) rfl rfl HT_.out (by kernel_rfl) (fun _ _ _ h => h) ⟨by rfl, ?_⟩ ?_ ?_; rotate_left; (intro w'; go_simp; with_reducible rfl); rotate_left; (simp only [Act.put, q1_, q2_, q3_, i64_w, i32_w]; rfl); refine pu_ (i := 8) (N := some 40) (v := ?_) (a' := ?_) (bs 16 455) rfl rfl HT_.out (by kernel_rfl) (fun _ _ _ h => h) ⟨by rfl, ?_⟩ ?_ ?_; rotate_left; (intro w'; go_simp; with_reducible rfl); rotate_left; (simp only [Act.put, q1_, q2_, q3_, i64_w, i32_w]; rfl); refine take_ (i := 3) (N := some 35) (v := ?_) (a' := ?_) (bs 16 463) rfl rfl (take_ofW HT_.out HW_.out (by kernel_rfl)) (fun _ _ _ h => h) (Or.inl ⟨by rfl, ?_⟩) hHeld ?_ ?_; rotate_left
                    · intro w' _
                      go_simp
                      with_reducible rfl
                    rotate_left
                    · simp only [Act.put, q1_, q2_, q3_, i64_w, i32_w]
                      rfl
                    refine take_ (i := 9) (N := some 41) (v := ?_) (a' := ?_) (bs 16 975) rfl rfl (take_ofW HT_.out HW_.out (by kernel_rfl)) (fun _ _ _ h => h) (Or.inl ⟨by rfl, ?_⟩) hHeld ?_ ?_; rotate_left
                    · intro w' _
                      go_simp
                      with_reducible rfl
                    rotate_left
                    · simp only [Act.put, q1_, q2_, q3_, i64_w, i32_w]
                      rfl
                    refine one_ (i := 4) (N := some 36) (bs 16 991) rfl rfl (one_of HT_.out (by kernel_rfl)) (by decide) (fun K hK => ?_); refine goes_ Try.func28 (by kernel_rfl) rfl #[.int .u8 (bt a0 x7_2)] (by rfl) rfl rfl (by (try simp only [List.map_toArray, List.map_cons, List.map_nil]); first | done | rfl | (simp only [List.length_drop, List.length_take]; rfl)) ?_
                    with_reducible refine (stopcockref01_value.calls k2 (bt a0 x7_2) t185 _ A11.out).mono ?_
                    rintro e w' ⟨rfl, ⟨nd, rfl⟩⟩
                    refine ⟨_, rfl, ?_⟩; refine hK.out _ _ trivial (fun hHeld => ?_); clear hK K; refine norm_ (a' := ?_) ?_ ?_; rotate_left
                    · show Act.put _ (some 36) _ = _
                      simp only [Act.put, q1_, q2_, q3_, i64_w, i32_w]
                      rfl
                    refine pu_ (i := 5) (N := some 37) (v := ?_) (a' := ?_) (bs 16 1023) rfl rfl HT_.out (by kernel_rfl) (fun _ _ _ h => h) ⟨by rfl, ?_⟩ ?_ ?_; rotate_left; (intro w'; go_simp; with_reducible rfl); rotate_left; (simp only [Act.put, q1_, q2_, q3_, i64_w, i32_w]; rfl); refine one_ (i := 10) (N := some 42) (bs 16 2047) rfl rfl (one_of HT_.out (by kernel_rfl)) (by decide) (fun K hK => ?_); refine goes_ Try.func28 (by kernel_rfl) rfl #[.int .u8 (bt a0 (ji12))] (by rfl) rfl rfl (by (try simp only [List.map_toArray, List.map_cons, List.map_nil]); first | done | (simp only [hji12]; rfl) | rfl | (simp only [List.length_drop, List.length_take]; rfl)) ?_
                    with_reducible refine (stopcockref01_value.calls k2 (bt a0 (ji12)) t186 _ A16.out).mono ?_
                    rintro e w' ⟨rfl, ⟨nd, rfl⟩⟩
                    refine ⟨_, rfl, ?_⟩; refine hK.out _ _ trivial (fun hHeld => ?_); clear hK K; refine norm_ (a' := ?_) ?_ ?_; rotate_left
                    · show Act.put _ (some 42) _ = _
                      simp only [Act.put, q1_, q2_, q3_, i64_w, i32_w]
                      rfl
                    refine pu_ (i := 11) (N := some 43) (v := ?_) (a' := ?_) (bs 16 4095) rfl rfl HT_.out (by kernel_rfl) (fun _ _ _ h => h) ⟨by rfl, ?_⟩ ?_ ?_; rotate_left; (intro w'; go_simp; with_reducible rfl); rotate_left; (simp only [Act.put, q1_, q2_, q3_, i64_w, i32_w]; rfl); refine pu_ (i := 12) (N := some 44) (v := ?_) (a' := ?_) (bs 16 8191) rfl rfl HT_.out (by kernel_rfl) (fun _ _ _ h => h) ⟨by rfl, ?_⟩ ?_ ?_; rotate_left; (intro w'; go_simp; with_reducible rfl); rotate_left; (simp only [Act.put, q1_, q2_, q3_, i64_w, i32_w]; rfl); refine one_ (i := 13) (N := some 45) (bs 16 16383) rfl rfl (one_of HT_.out (by kernel_rfl)) (by decide) (fun K hK => ?_); refine value_ (w1 := ?_) (v := ?_) (by rfl) rfl ?_ ?_; rotate_left 2
                    · go_simp
                      constructor
                      · rfl
                      · rfl
                    refine hK.out _ _ trivial (fun hHeld => ?_); clear hK K; refine norm_ (a' := ?_) ?_ ?_; rotate_left
                    · show Act.put _ (some 45) _ = _
                      simp only [Act.put, q1_, q2_, q3_, i64_w, i32_w]
                      rfl
                    refine one_ (i := 14) (N := some 46) (bs 16 32767) rfl rfl (one_of HT_.out (by kernel_rfl)) (by decide) (fun K hK => ?_); refine Kd.R_append_step (Kd.int .u8) (w0 := w) w.heap.size (by rfl) (.tmp 32) (.tmp 45) 24 5 (.int .u8 0) 1 rfl Try.underlying24 info5 rfl (by decide) (by omega) u6 x6_2 ((wrap64 ((wrap64 (t185 * 16)) + t186)) % 256) [.int .u8 ((wrap64 ((wrap64 (t185 * 16)) + t186)) % 256)] (fun _ => True) (fun _ => False) rfl rfl ?aP (fun _ hk => hk.elim) ?aF ?aO ?aB ?aS ?aL ?_
                    (case aP => exact rfl)
                    (case aB => exact (bel0 HB.out))
                    (case aF => exact (fun _ _ => trivial))
                    (case aO => exact (by (with_reducible repeat (first | apply Kd.R_alloc | apply Kd.R_drewN | apply Kd.R_drew)); exact HO_6.out))
                    (case aS => exact (below_size (bel0 HB.out)))
                    (case aL => have := LMc17.out; omega)
                    intro v188 w19 ho hb hg hat; rw [← Ny187.out] at ho; have n0_ := Aside0.mk (hb); have n1_ := Aside0.mk (ho); clear HB; clear HO_6; have HB := n0_; have HO189 := n1_; clear n0_ n1_; clear ho hb hg hat; refine hK.out _ _ trivial (fun hHeld => ?_); clear hK K; refine norm_ (a' := ?_) ?_ ?_; rotate_left
                    · show Act.put _ (some 46) _ = _
                      simp only [Act.put, q1_, q2_, q3_, i64_w, i32_w]
                      rfl
                    refine pu_ (i := 15) (N := some 6) (v := ?_) (a' := ?_) (bs 16 65535) rfl rfl HT_.out (by kernel_rfl) (fun _ _ _ h => h) ⟨by rfl, ?_⟩ ?_ ?_; rotate_left; (intro w'; go_simp; with_reducible rfl); rotate_left; (simp only [Act.put, q1_, q2_, q3_, i64_w, i32_w]; rfl); refine done_ (done_of HT_.out (by kernel_rfl)) ?_
                    try go_wp2
                    go_roundg k2
                    case measure => have := HK1.out; have := HK2.out; omega
                    case rel => exact ⟨(y187), (wrap64 (x7_2 + 2)), (by first | rfl | (simp; done) | (simp [*]; done)), H', ⟨by have := HK1.out; have := HK2.out; omega⟩, ⟨by (with_reducible repeat (first | apply Kd.R_alloc | apply Kd.R_drewN | apply Kd.R_drew)); exact HO189.out⟩, ⟨by exact bel0 HB.out⟩⟩
                  rw [if_neg c17] at H; exact absurd H (by simp)
                rw [if_neg c14] at H; exact absurd H (by simp)
              rw [if_neg c13] at H; exact absurd H (by simp)
            rw [if_neg c9] at H; exact absurd H (by simp)
          rw [if_neg c8] at H; have c8b0 : decide (x7_2 < (a0.size : Int)) = false := decide_eq_false c8; clear c8
          simp only [Option.some.injEq, Prod.mk.injEq] at H
          obtain ⟨rfl, rfl, rfl⟩ := H
          go_wp2
          go_ret3
          exact ⟨_, by first | rfl | (simp [errW_none, errW_some] <;> rfl) | (simp [*, errW_none, errW_some] <;> rfl), by (with_reducible repeat (first | apply Kd.R_alloc | apply Kd.R_drewN | apply Kd.R_drew)); exact HO_6.out, by exact bel0 HB.out⟩

end Go.Proofs.Ytpadboidkpembaa.PA
