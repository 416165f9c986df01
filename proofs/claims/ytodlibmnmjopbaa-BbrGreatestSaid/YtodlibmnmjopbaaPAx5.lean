-- Written by a program of this session (wip/tools/mkprint.py, mp.sh) for this claim.
import Derived.Test.YtodlibmnmjopbaaPAx0
import Derived.Test.YtodlibmnmjopbaaPAx4
namespace Go.Proofs.Ytodlibmnmjopbaa.PA
open Go.RowKit Go.Proofs.YtodlibmnmjopbaaW.PrintWords Go.Proofs.YtodlibmnmjopbaaW.PrintLast Go.Proofs.YtodlibmnmjopbaaW.PrintMore
attribute [local go_sem] max2_int min2_int max_two min_two max_three min_three max_four min_four   -- for this text's walks alone
set_option linter.unusedVariables false
set_option linter.unusedSimpArgs false

/-! ### stopcockref23_list: function 24 -/
def stopcockref23_list.l0 : Nat → List (S58) → Int → Option (Bool)
  | 0, _, _ => none
  | k + 1, x0, x3 => if x3 < (x0.length : Int) then (if 0 ≤ x3 then ((stopcockref23_within.f ((rd_T58 x0 x3).f0) 1099511627776).bind fun t133 => (if t133 = true then ((stopcockref23_within.f ((rd_T58 x0 x3).f1) 1073741824).bind fun t135 => (if t135 = true then (if x3 > 0 then (if 0 ≤ (wrap64 (x3 - 1)) then (if (wrap64 (x3 - 1)) < (x0.length : Int) then (if ((rd_T58 x0 x3).f0) ≤ ((rd_T58 x0 (wrap64 (x3 - 1))).f0) then (some false) else (if ((rd_T58 x0 x3).f1) ≥ ((rd_T58 x0 (wrap64 (x3 - 1))).f1) then (some false) else (stopcockref23_list.l0 k x0 (wrap64 (x3 + 1))))) else (none)) else (none)) else (stopcockref23_list.l0 k x0 (wrap64 (x3 + 1)))) else (some false))) else (some false))) else (none)) else (some true)
def stopcockref23_list.f (k : Nat) (l0 : List (S58)) : Option (Bool) := if (l0.length : Int) > 10 then (some false) else (stopcockref23_list.l0 k l0 0)
theorem stopcockref23_list.mono_l : ∀ k, (∀ y0 y1, LeO (stopcockref23_list.l0 k y0 y1) (stopcockref23_list.l0 (k + 1) y0 y1))
  | 0 => fun _ _ r h => by simp [stopcockref23_list.l0] at h
  | k + 1 => by
    have ih0 := stopcockref23_list.mono_l k
    · intro y0 y1
      unfold stopcockref23_list.l0
      repeat' first
      | (with_reducible exact ih0 _ _)
      | (with_reducible exact LeO.refl _)
      | (with_reducible exact LeO.none _)
      | (with_reducible refine LeO.ite ?_ ?_)
      | (with_reducible refine LeO.bind ?_ (fun _ => ?_))
      | exact ih0 _ _
      | exact LeO.none _
      | refine LeO.ite ?_ ?_
      | refine LeO.bind ?_ (fun _ => ?_)
theorem stopcockref23_list.mono : ∀ a0 k, LeO (stopcockref23_list.f k a0) (stopcockref23_list.f (k + 1) a0) := by
  intro a0 k; have ih0 := stopcockref23_list.mono_l k
  unfold stopcockref23_list.f
  repeat' first
      | (with_reducible exact ih0 _ _)
      | (with_reducible exact LeO.refl _)
      | (with_reducible exact LeO.none _)
      | (with_reducible refine LeO.ite ?_ ?_)
      | (with_reducible refine LeO.bind ?_ (fun _ => ?_))
      | exact ih0 _ _
      | exact LeO.none _
      | refine LeO.ite ?_ ?_
      | refine LeO.bind ?_ (fun _ => ?_)
def stopcockref23_list.T6 : Bool × List (List Nat × List Nat) := (true, [([], []), ([], []), ([0, 1], [0, 1]), ([2], [2]), ([3], [3]), ([4], [4]), ([5], [5]), ([6, 5], [6]), ([7], [7]), ([7], [7]), ([8, 9, 7], [7, 8, 9]), ([10, 7], [7, 10]), ([11, 7], [7, 11]), ([12, 7, 7], [7, 12]), ([13, 7], [7, 13]), ([7, 14], [7, 14]), ([15, 13], [15]), ([16], [16]), ([17, 16], [16, 17]), ([18, 16, 16], [16, 18]), ([19], [19]), ([19], [19]), ([20, 21, 19], [19, 20, 21]), ([22, 19], [19, 22]), ([23, 19], [19, 23]), ([19], [19]), ([19], [19]), ([26, 19], [19, 26]), ([25, 27, 19], [19, 25, 27]), ([28, 19], [19, 28]), ([29, 19], [19, 29]), ([24, 30, 19], [19, 24, 30]), ([31, 19, 19], [19, 31]), ([32], [32]), ([32], [32]), ([33, 34, 32], [32, 33, 34]), ([35, 32], [32, 35]), ([36, 32], [32, 36]), ([32], [32]), ([32], [32]), ([39, 32], [32, 39]), ([38, 40, 32], [32, 38, 40]), ([41, 32], [32, 41]), ([42, 32], [32, 42]), ([37, 43, 32], [32, 37, 43]), ([32, 44, 19], [19, 32, 44]), ([19, 45, 16], [16, 19, 45]), ([16, 46], [16, 46])])
def stopcockref23_list.B6 : List Nat := [0, 0, 3, 7, 15, 31, 63, 127, 255, 255, 1023, 2047, 4095, 8191, 16383, 32767, 65535, 131071, 262143, 524287, 1048575, 1048575, 4194303, 8388607, 16777215, 1048575, 1048575, 68157439, 235929599, 504365055, 1041235967, 2147483647, 4294967295, 8589934591, 8589934591, 34359738367, 68719476735, 137438953471, 8589934591, 8589934591, 558345748479, 1932735283199, 4131758538751, 8529805049855, 17592186044415, 35184372088831, 70368744177663, 140737488355327]
theorem stopcockref23_list.tab6 : rtab .any (opsOf Try.f24 6) = stopcockref23_list.T6 := by kernel_rfl
theorem stopcockref23_list.bits6 : waitsOk stopcockref23_list.T6.2 stopcockref23_list.B6 = true := by kernel_rfl
set_option maxHeartbeats 8000000 in
set_option maxRecDepth 100000 in
theorem stopcockref23_list.calls (k : Nat) (A0 : Option Addr) (c0 : Nat) (l0 : List (S58)) (r : Bool) (w : World) (hr0 : Kd.C k58 w A0 l0.length l0) (hc0 : l0.length ≤ c0) (h : stopcockref23_list.f k l0 = some r) :
    Calls Try.prog 24 #[.slice A0 l0.length c0] w fun e w' => e = .returned (.bool r) ∧ Below w.heap.size w w' := by
  have HR0 := Aside0.mk hr0; have HC0 := Aside0.mk hc0; clear hr0 hc0; have HB := Aside0.mk (Below.refl w.heap.size w); have H : (if (l0.length : Int) > 10 then (some false) else (stopcockref23_list.l0 k l0 0)) = some r := h; clear h
  by_cases c2 : (l0.length : Int) > 10
  · rw [if_pos c2] at H
    have c2b0 : decide (10 < (l0.length : Int)) = true := decide_eq_true c2; have c2b1 : decide (10 < l0.length) = true := decide_eq_true (by omega); clear c2; obtain rfl := Option.some.inj H
    go_enter Try.func24, Try.ntmps24
    go_wp2
    go_ret
    exact ⟨by first | rfl | (simp [errW_none, errW_some] <;> rfl) | (simp [*, errW_none, errW_some] <;> rfl), by exact bel0 HB.out⟩
  rw [if_neg c2] at H; have c2b0 : decide (10 < (l0.length : Int)) = false := decide_eq_false c2; have c2b1 : decide (10 < l0.length) = false := decide_eq_false (by omega); clear c2; have H' := Aside0.mk H; clear H
  go_enter Try.func24, Try.ntmps24
  go_wp2
  go_loopg [3] k (fun kq v3 w' => ∃ (x3_1 : Int), v3 = .int .i64 x3_1 ∧ Aside0 (stopcockref23_list.l0 kq l0 x3_1 = some r) ∧ Aside0 (kq ≤ k) ∧ Aside0 (Below w.heap.size w w'))
  case atStart => exact ⟨(0), (by first | rfl | (simp; done) | (simp [*]; done)), H', ⟨Nat.le_refl _⟩, ⟨by exact bel0 HB.out⟩⟩
  case round =>
    clear H'
    try clear c2
    try clear c2b0
    try clear c2b1
    try clear p2
    obtain ⟨x3_1, rfl, HA, HK1, HB⟩ := hrel
    cases gk with
    | zero => exact absurd HA.out (by simp [stopcockref23_list.l0])
    | succ k1 =>
      have H := HA.out; clear HA
      simp only [stopcockref23_list.l0] at H
      by_cases c3 : x3_1 < (l0.length : Int)
      · rw [if_pos c3] at H
        have c3b0 : decide (x3_1 < (l0.length : Int)) = true := decide_eq_true c3; clear c3
        by_cases c4 : 0 ≤ x3_1
        · rw [if_pos c4] at H
          have c4b0 : decide (0 ≤ x3_1) = true := decide_eq_true c4; clear c4; replace H := Option.bind_eq_some_iff.mp H; obtain ⟨t133, A50, H⟩ := H; replace H : (if t133 = true then ((stopcockref23_within.f ((rd_T58 l0 x3_1).f1) 1073741824).bind fun t135 => (if t135 = true then (if x3_1 > 0 then (if 0 ≤ (wrap64 (x3_1 - 1)) then (if (wrap64 (x3_1 - 1)) < (l0.length : Int) then (if ((rd_T58 l0 x3_1).f0) ≤ ((rd_T58 l0 (wrap64 (x3_1 - 1))).f0) then (some false) else (if ((rd_T58 l0 x3_1).f1) ≥ ((rd_T58 l0 (wrap64 (x3_1 - 1))).f1) then (some false) else (stopcockref23_list.l0 k1 l0 (wrap64 (x3_1 + 1))))) else (none)) else (none)) else (stopcockref23_list.l0 k1 l0 (wrap64 (x3_1 + 1)))) else (some false))) else (some false)) = some r := H; have A5 := Aside0.mk A50; clear A50
          by_cases c6 : t133 = true
          · subst c6
            have H1 : ((stopcockref23_within.f ((rd_T58 l0 x3_1).f1) 1073741824).bind fun t135 => (if t135 = true then (if x3_1 > 0 then (if 0 ≤ (wrap64 (x3_1 - 1)) then (if (wrap64 (x3_1 - 1)) < (l0.length : Int) then (if ((rd_T58 l0 x3_1).f0) ≤ ((rd_T58 l0 (wrap64 (x3_1 - 1))).f0) then (some false) else (if ((rd_T58 l0 x3_1).f1) ≥ ((rd_T58 l0 (wrap64 (x3_1 - 1))).f1) then (some false) else (stopcockref23_list.l0 k1 l0 (wrap64 (x3_1 + 1))))) else (none)) else (none)) else (stopcockref23_list.l0 k1 l0 (wrap64 (x3_1 + 1)))) else (some false))) = some r := by rw [if_pos rfl] at H; exact H
            clear H; have H := H1; clear H1; replace H := Option.bind_eq_some_iff.mp H; obtain ⟨t135, A70, H⟩ := H; replace H : (if t135 = true then (if x3_1 > 0 then (if 0 ≤ (wrap64 (x3_1 - 1)) then (if (wrap64 (x3_1 - 1)) < (l0.length : Int) then (if ((rd_T58 l0 x3_1).f0) ≤ ((rd_T58 l0 (wrap64 (x3_1 - 1))).f0) then (some false) else (if ((rd_T58 l0 x3_1).f1) ≥ ((rd_T58 l0 (wrap64 (x3_1 - 1))).f1) then (some false) else (stopcockref23_list.l0 k1 l0 (wrap64 (x3_1 + 1))))) else (none)) else (none)) else (stopcockref23_list.l0 k1 l0 (wrap64 (x3_1 + 1)))) else (some false)) = some r := H; have A7 := Aside0.mk A70; clear A70
            by_cases c8 : t135 = true
            · subst c8
              have H1 : (if x3_1 > 0 then (if 0 ≤ (wrap64 (x3_1 - 1)) then (if (wrap64 (x3_1 - 1)) < (l0.length : Int) then (if ((rd_T58 l0 x3_1).f0) ≤ ((rd_T58 l0 (wrap64 (x3_1 - 1))).f0) then (some false) else (if ((rd_T58 l0 x3_1).f1) ≥ ((rd_T58 l0 (wrap64 (x3_1 - 1))).f1) then (some false) else (stopcockref23_list.l0 k1 l0 (wrap64 (x3_1 + 1))))) else (none)) else (none)) else (stopcockref23_list.l0 k1 l0 (wrap64 (x3_1 + 1)))) = some r := by rw [if_pos rfl] at H; exact H
              clear H; have H := H1; clear H1
              by_cases c9 : x3_1 > 0
              · rw [if_pos c9] at H
                have c9b0 : decide (0 < x3_1) = true := decide_eq_true c9; clear c9; obtain ⟨ji10, hji10⟩ : ∃ j_ : Int, (wrap64 (x3_1 - 1)) = j_ := ⟨_, rfl⟩; replace H : (if 0 ≤ (ji10) then (if (ji10) < (l0.length : Int) then (if ((rd_T58 l0 x3_1).f0) ≤ ((rd_T58 l0 (ji10)).f0) then (some false) else (if ((rd_T58 l0 x3_1).f1) ≥ ((rd_T58 l0 (ji10)).f1) then (some false) else (stopcockref23_list.l0 k1 l0 (wrap64 (x3_1 + 1))))) else (none)) else (none)) = some r := by first | (rw [hji10] at H; exact H) | (simp only [hji10] at H ⊢; exact H)
                (try rw [hji10] at A5)
                (try rw [hji10] at A7)
                have hji10w : (IntKind.i64.wrap (x3_1 - 1)) = ji10 := (i64_w _).trans hji10
                by_cases c11 : 0 ≤ (ji10)
                · rw [if_pos c11] at H
                  have c11b0 : decide (0 ≤ (ji10)) = true := decide_eq_true c11; clear c11
                  by_cases c12 : (ji10) < (l0.length : Int)
                  · rw [if_pos c12] at H
                    have c12b0 : decide ((ji10) < (l0.length : Int)) = true := decide_eq_true c12; clear c12
                    by_cases c13 : ((rd_T58 l0 x3_1).f0) ≤ ((rd_T58 l0 (ji10)).f0)
                    · rw [if_pos c13] at H
                      have c13b0 : decide (((rd_T58 l0 x3_1).f0) ≤ ((rd_T58 l0 (ji10)).f0)) = true := decide_eq_true c13; clear c13; obtain rfl := Option.some.inj H
                      try go_wp2
                      have n0_ := Aside0.mk (below_drew1 HB.out); clear HB; have HB := n0_; clear n0_; have p132 : 0 ≤ (x3_1 : Int) := of_decide_eq_true (by first | (with_reducible assumption) | assumption); have q132 : x3_1 < (l0.length : Int) := of_decide_eq_true (by first | (with_reducible assumption) | assumption); obtain ⟨ad132, e132, hx132_0, hx132_1⟩ := at_T58 HR0.out x3_1 p132 q132; have hw132_1 := hx132_1; have hw132_0 := hx132_0
                      cases e132
                      replace hx132_0 := (HB.out.cell (World.block_lt_of_cell? w _ hx132_0)).trans hx132_0; replace hx132_1 := (HB.out.cell (World.block_lt_of_cell? w _ hx132_1)).trans hx132_1; replace p132 := eq_true p132; replace q132 := eq_true q132; have p134 : 0 ≤ (x3_1 : Int) := of_decide_eq_true (by first | (with_reducible assumption) | assumption); have q134 : x3_1 < (l0.length : Int) := of_decide_eq_true (by first | (with_reducible assumption) | assumption); obtain ⟨ad134, e134, hx134_0, hx134_1⟩ := at_T58 HR0.out x3_1 p134 q134; have hw134_1 := hx134_1; have hw134_0 := hx134_0; obtain rfl : ad132 = ad134 := (by injection e134); replace hx134_0 := (HB.out.cell (World.block_lt_of_cell? w _ hx134_0)).trans hx134_0; replace hx134_1 := (HB.out.cell (World.block_lt_of_cell? w _ hx134_1)).trans hx134_1; replace p134 := eq_true p134; replace q134 := eq_true q134; have p136 : 0 ≤ (x3_1 : Int) := of_decide_eq_true (by first | (with_reducible assumption) | assumption); have q136 : x3_1 < (l0.length : Int) := of_decide_eq_true (by first | (with_reducible assumption) | assumption); obtain ⟨ad136, e136, hx136_0, hx136_1⟩ := at_T58 HR0.out x3_1 p136 q136; have hw136_1 := hx136_1; have hw136_0 := hx136_0; obtain rfl : ad132 = ad136 := (by injection e136); replace hx136_0 := (HB.out.cell (World.block_lt_of_cell? w _ hx136_0)).trans hx136_0; replace hx136_1 := (HB.out.cell (World.block_lt_of_cell? w _ hx136_1)).trans hx136_1; replace p136 := eq_true p136; replace q136 := eq_true q136
                      have p137 : 0 ≤ ((ji10) : Int) := of_decide_eq_true (by first | (with_reducible assumption) | assumption); have q137 : (ji10) < (l0.length : Int) := of_decide_eq_true (by first | (with_reducible assumption) | assumption); obtain ⟨ad137, e137, hx137_0, hx137_1⟩ := at_T58 HR0.out (ji10) p137 q137; have hw137_1 := hx137_1; have hw137_0 := hx137_0; obtain rfl : ad132 = ad137 := (by injection e137); replace hx137_0 := (HB.out.cell (World.block_lt_of_cell? w _ hx137_0)).trans hx137_0; replace hx137_1 := (HB.out.cell (World.block_lt_of_cell? w _ hx137_1)).trans hx137_1; replace p137 := eq_true p137; replace q137 := eq_true q137; refine start_ (n := 48) (S := fun w' => w'.cell? (ad132.add ((x3_1).toNat * 2)) = some (.int .i64 ((rd_T58 l0 x3_1).f0)) ∧ w'.cell? ⟨(ad132.add ((x3_1).toNat * 2)).block, (ad132.add ((x3_1).toNat * 2)).off + 1, none⟩ = some (.int .i64 ((rd_T58 l0 x3_1).f1)) ∧ w'.cell? (ad132.add ((x3_1).toNat * 2)) = some (.int .i64 ((rd_T58 l0 x3_1).f0)) ∧ w'.cell? ⟨(ad132.add ((x3_1).toNat * 2)).block, (ad132.add ((x3_1).toNat * 2)).off + 1, none⟩ = some (.int .i64 ((rd_T58 l0 x3_1).f1)) ∧ w'.cell? (ad132.add ((x3_1).toNat * 2)) = some (.int .i64 ((rd_T58 l0 x3_1).f0)) ∧ w'.cell? ⟨(ad132.add ((x3_1).toNat * 2)).block, (ad132.add ((x3_1).toNat * 2)).off + 1, none⟩ = some (.int .i64 ((rd_T58 l0 x3_1).f1)) ∧ w'.cell? (ad132.add (((ji10)).toNat * 2)) = some (.int .i64 ((rd_T58 l0 (ji10)).f0)) ∧ w'.cell? ⟨(ad132.add (((ji10)).toNat * 2)).block, (ad132.add (((ji10)).toNat * 2)).off + 1, none⟩ = some (.int .i64 ((rd_T58 l0 (ji10)).f1))) (ds := []) (bs 48 0) (by kernel_rfl) rfl rfl ⟨((HB.out.cell (World.block_lt_of_cell? w _ hw132_0)).trans hw132_0), ((HB.out.cell (World.block_lt_of_cell? w _ hw132_1)).trans hw132_1), ((HB.out.cell (World.block_lt_of_cell? w _ hw134_0)).trans hw134_0), ((HB.out.cell (World.block_lt_of_cell? w _ hw134_1)).trans hw134_1), ((HB.out.cell (World.block_lt_of_cell? w _ hw136_0)).trans hw136_0), ((HB.out.cell (World.block_lt_of_cell? w _ hw136_1)).trans hw136_1), ((HB.out.cell (World.block_lt_of_cell? w _ hw137_0)).trans hw137_0), ((HB.out.cell (World.block_lt_of_cell? w _ hw137_1)).trans hw137_1)⟩ (fun hHeld => ?_); refine with_tabW stopcockref23_list.tab6 stopcockref23_list.bits6 (fun HT_ HW_ => ?_)
                      generalize wr.drew = w14 at HB hx132_0 hx132_1 hx134_0 hx134_1 hx136_0 hx136_1 hx137_0 hx137_1 hHeld ⊢; refine pu_ (i := 0) (N := some 13) (v := ?_) (a' := ?_) (bs 48 1) rfl rfl HT_.out (by kernel_rfl) (fun _ _ _ h => h) ⟨by rfl, ?_⟩ ?_ ?_; rotate_left; (intro w'; go_simp; with_reducible rfl); rotate_left; (simp only [Act.put, q1_, q2_, q3_, i64_w, i32_w]; rfl); refine pu_ (i := 1) (N := some 14) (v := ?_) (a' := ?_) (bs 48 3) rfl rfl HT_.out (by kernel_rfl) (fun _ _ _ h => h) ⟨by rfl, ?_⟩ ?_ ?_; rotate_left; (intro w'; go_simp; with_reducible rfl); rotate_left; (simp only [Act.put, q1_, q2_, q3_, i64_w, i32_w]; rfl); refine pu_ (i := 2) (N := some 15) (v := ?_) (a' := ?_) (bs 48 7) rfl rfl HT_.out (by kernel_rfl) (fun _ _ _ h => h) ⟨by rfl, ?_⟩ ?_ ?_; rotate_left; (intro w'; go_simp; with_reducible rfl); rotate_left; (simp only [Act.put, q1_, q2_, q3_, i64_w, i32_w]; rfl); refine pu_ (i := 3) (N := some 16) (v := ?_) (a' := ?_) (bs 48 15) rfl rfl HT_.out (by kernel_rfl) (fun _ _ _ h => h) ⟨by rfl, ?_⟩ ?_ ?_; rotate_left; (intro w'; go_simp; with_reducible rfl); rotate_left; (simp only [Act.put, q1_, q2_, q3_, i64_w, i32_w]; rfl); refine take_ (i := 4) (N := some 17) (v := ?_) (a' := ?_) (bs 48 31) rfl rfl (take_ofW HT_.out HW_.out (by kernel_rfl)) (fun _ _ _ h => h) (Or.inl ⟨by rfl, ?_⟩) hHeld ?_ ?_; rotate_left
                      · rintro w' ⟨s0, s1, s2, s3, s4, s5, s6, s7⟩
                        go_simp
                        with_reducible rfl
                      rotate_left
                      · simp only [Act.put, q1_, q2_, q3_, i64_w, i32_w]
                        rfl
                      refine one_ (i := 5) (N := some 18) (bs 48 63) rfl rfl (one_of HT_.out (by kernel_rfl)) (by decide) (fun K hK => ?_); refine goes_ Try.func25 (by kernel_rfl) rfl #[.int .i64 ((rd_T58 l0 x3_1).f0), .int .i64 1099511627776] (by rfl) rfl rfl (by (try simp only [List.map_toArray, List.map_cons, List.map_nil]); first | done | rfl | (simp only [List.length_drop, List.length_take]; rfl)) ?_
                      with_reducible refine (stopcockref23_within.calls ((rd_T58 l0 x3_1).f0) 1099511627776 true _ A5.out).mono ?_
                      rintro e w' ⟨rfl, ⟨nd, rfl⟩⟩
                      refine ⟨_, rfl, ?_⟩; refine hK.out _ _ ⟨((HB.out.cell (World.block_lt_of_cell? w _ hw132_0)).trans hw132_0), ((HB.out.cell (World.block_lt_of_cell? w _ hw132_1)).trans hw132_1), ((HB.out.cell (World.block_lt_of_cell? w _ hw134_0)).trans hw134_0), ((HB.out.cell (World.block_lt_of_cell? w _ hw134_1)).trans hw134_1), ((HB.out.cell (World.block_lt_of_cell? w _ hw136_0)).trans hw136_0), ((HB.out.cell (World.block_lt_of_cell? w _ hw136_1)).trans hw136_1), ((HB.out.cell (World.block_lt_of_cell? w _ hw137_0)).trans hw137_0), ((HB.out.cell (World.block_lt_of_cell? w _ hw137_1)).trans hw137_1)⟩ (fun hHeld => ?_); clear hK K; refine norm_ (a' := ?_) ?_ ?_; rotate_left
                      · show Act.put _ (some 18) _ = _
                        simp only [Act.put, q1_, q2_, q3_, i64_w, i32_w]
                        rfl
                      refine pu_ (i := 6) (N := some 19) (v := ?_) (a' := ?_) (bs 48 127) rfl rfl HT_.out (by kernel_rfl) (fun _ _ _ h => h) ⟨by rfl, ?_⟩ ?_ ?_; rotate_left; (intro w'; go_simp; with_reducible rfl); rotate_left; (simp only [Act.put, q1_, q2_, q3_, i64_w, i32_w]; rfl); refine pu_ (i := 7) (N := some 20) (v := ?_) (a' := ?_) (bs 48 255) rfl rfl HT_.out (by kernel_rfl) (fun _ _ _ h => h) ⟨by rfl, ?_⟩ ?_ ?_; rotate_left; (intro w'; go_simp; with_reducible rfl); rotate_left; (simp only [Act.put, q1_, q2_, q3_, i64_w, i32_w]; rfl); refine pu_ (i := 8) (N := some 21) (v := ?_) (a' := ?_) (bs 48 511) rfl rfl HT_.out (by kernel_rfl) (fun _ _ _ h => h) ⟨by rfl, ?_⟩ ?_ ?_; rotate_left; (intro w'; go_simp; with_reducible rfl); rotate_left; (simp only [Act.put, q1_, q2_, q3_, i64_w, i32_w]; rfl); refine pu_ (i := 9) (N := some 22) (v := ?_) (a' := ?_) (bs 48 1023) rfl rfl HT_.out (by kernel_rfl) (fun _ _ _ h => h) ⟨by rfl, ?_⟩ ?_ ?_; rotate_left; (intro w'; go_simp; with_reducible rfl); rotate_left; (simp only [Act.put, q1_, q2_, q3_, i64_w, i32_w]; rfl); refine pu_ (i := 10) (N := some 23) (v := ?_) (a' := ?_) (bs 48 2047) rfl rfl HT_.out (by kernel_rfl) (fun _ _ _ h => h) ⟨by rfl, ?_⟩ ?_ ?_; rotate_left; (intro w'; go_simp; with_reducible rfl); rotate_left; (simp only [Act.put, q1_, q2_, q3_, i64_w, i32_w]; rfl); refine pu_ (i := 11) (N := some 24) (v := ?_) (a' := ?_) (bs 48 4095) rfl rfl HT_.out (by kernel_rfl) (fun _ _ _ h => h) ⟨by rfl, ?_⟩ ?_ ?_; rotate_left; (intro w'; go_simp; with_reducible rfl); rotate_left; (simp only [Act.put, q1_, q2_, q3_, i64_w, i32_w]; rfl)
                      refine take_ (i := 12) (N := some 25) (v := ?_) (a' := ?_) (bs 48 8191) rfl rfl (take_ofW HT_.out HW_.out (by kernel_rfl)) (fun _ _ _ h => h) (Or.inl ⟨by rfl, ?_⟩) hHeld ?_ ?_; rotate_left
                      · rintro w' ⟨s0, s1, s2, s3, s4, s5, s6, s7⟩
                        go_simp
                        with_reducible rfl
                      rotate_left
                      · simp only [Act.put, q1_, q2_, q3_, i64_w, i32_w]
                        rfl
                      refine one_ (i := 13) (N := some 26) (bs 48 16383) rfl rfl (one_of HT_.out (by kernel_rfl)) (by decide) (fun K hK => ?_); refine goes_ Try.func25 (by kernel_rfl) rfl #[.int .i64 ((rd_T58 l0 x3_1).f1), .int .i64 1073741824] (by rfl) rfl rfl (by (try simp only [List.map_toArray, List.map_cons, List.map_nil]); first | done | rfl | (simp only [List.length_drop, List.length_take]; rfl)) ?_
                      with_reducible refine (stopcockref23_within.calls ((rd_T58 l0 x3_1).f1) 1073741824 true _ A7.out).mono ?_
                      rintro e w' ⟨rfl, ⟨nd, rfl⟩⟩
                      refine ⟨_, rfl, ?_⟩; refine hK.out _ _ ⟨((HB.out.cell (World.block_lt_of_cell? w _ hw132_0)).trans hw132_0), ((HB.out.cell (World.block_lt_of_cell? w _ hw132_1)).trans hw132_1), ((HB.out.cell (World.block_lt_of_cell? w _ hw134_0)).trans hw134_0), ((HB.out.cell (World.block_lt_of_cell? w _ hw134_1)).trans hw134_1), ((HB.out.cell (World.block_lt_of_cell? w _ hw136_0)).trans hw136_0), ((HB.out.cell (World.block_lt_of_cell? w _ hw136_1)).trans hw136_1), ((HB.out.cell (World.block_lt_of_cell? w _ hw137_0)).trans hw137_0), ((HB.out.cell (World.block_lt_of_cell? w _ hw137_1)).trans hw137_1)⟩ (fun hHeld => ?_); clear hK K; refine norm_ (a' := ?_) ?_ ?_; rotate_left
                      · show Act.put _ (some 26) _ = _
                        simp only [Act.put, q1_, q2_, q3_, i64_w, i32_w]
                        rfl
                      refine pu_ (i := 14) (N := some 27) (v := ?_) (a' := ?_) (bs 48 32767) rfl rfl HT_.out (by kernel_rfl) (fun _ _ _ h => h) ⟨by rfl, ?_⟩ ?_ ?_; rotate_left; (intro w'; go_simp; with_reducible rfl); rotate_left; (simp only [Act.put, q1_, q2_, q3_, i64_w, i32_w]; rfl); refine pu_ (i := 15) (N := some 28) (v := ?_) (a' := ?_) (bs 48 65535) rfl rfl HT_.out (by kernel_rfl) (fun _ _ _ h => h) ⟨by rfl, ?_⟩ ?_ ?_; rotate_left; (intro w'; go_simp; with_reducible rfl); rotate_left; (simp only [Act.put, q1_, q2_, q3_, i64_w, i32_w]; rfl); refine pu_ (i := 16) (N := some 29) (v := ?_) (a' := ?_) (bs 48 131071) rfl rfl HT_.out (by kernel_rfl) (fun _ _ _ h => h) ⟨by rfl, ?_⟩ ?_ ?_; rotate_left; (intro w'; go_simp; with_reducible rfl); rotate_left; (simp only [Act.put, q1_, q2_, q3_, i64_w, i32_w]; rfl); refine pu_ (i := 17) (N := some 30) (v := ?_) (a' := ?_) (bs 48 262143) rfl rfl HT_.out (by kernel_rfl) (fun _ _ _ h => h) ⟨by rfl, ?_⟩ ?_ ?_; rotate_left; (intro w'; go_simp; with_reducible rfl); rotate_left; (simp only [Act.put, q1_, q2_, q3_, i64_w, i32_w]; rfl); refine pu_ (i := 18) (N := some 31) (v := ?_) (a' := ?_) (bs 48 524287) rfl rfl HT_.out (by kernel_rfl) (fun _ _ _ h => h) ⟨by rfl, ?_⟩ ?_ ?_; rotate_left; (intro w'; go_simp; with_reducible rfl); rotate_left; (simp only [Act.put, q1_, q2_, q3_, i64_w, i32_w]; rfl); refine pu_ (i := 19) (N := some 32) (v := ?_) (a' := ?_) (bs 48 1048575) rfl rfl HT_.out (by kernel_rfl) (fun _ _ _ h => h) ⟨by rfl, ?_⟩ ?_ ?_; rotate_left; (intro w'; go_simp; with_reducible rfl); rotate_left; (simp only [Act.put, q1_, q2_, q3_, i64_w, i32_w]; rfl)
                      refine pu_ (i := 20) (N := some 33) (v := ?_) (a' := ?_) (bs 48 2097151) rfl rfl HT_.out (by kernel_rfl) (fun _ _ _ h => h) ⟨by rfl, ?_⟩ ?_ ?_; rotate_left; (intro w'; go_simp; with_reducible rfl); rotate_left; (simp only [Act.put, q1_, q2_, q3_, i64_w, i32_w]; rfl); refine pu_ (i := 21) (N := some 34) (v := ?_) (a' := ?_) (bs 48 4194303) rfl rfl HT_.out (by kernel_rfl) (fun _ _ _ h => h) ⟨by rfl, ?_⟩ ?_ ?_; rotate_left; (intro w'; go_simp; with_reducible rfl); rotate_left; (simp only [Act.put, q1_, q2_, q3_, i64_w, i32_w]; rfl); refine pu_ (i := 22) (N := some 35) (v := ?_) (a' := ?_) (bs 48 8388607) rfl rfl HT_.out (by kernel_rfl) (fun _ _ _ h => h) ⟨by rfl, ?_⟩ ?_ ?_; rotate_left; (intro w'; go_simp; with_reducible rfl); rotate_left; (simp only [Act.put, q1_, q2_, q3_, i64_w, i32_w]; rfl); refine pu_ (i := 23) (N := some 36) (v := ?_) (a' := ?_) (bs 48 16777215) rfl rfl HT_.out (by kernel_rfl) (fun _ _ _ h => h) ⟨by rfl, ?_⟩ ?_ ?_; rotate_left; (intro w'; go_simp; with_reducible rfl); rotate_left; (simp only [Act.put, q1_, q2_, q3_, i64_w, i32_w]; rfl); refine pu_ (i := 25) (N := some 38) (v := ?_) (a' := ?_) (bs 48 50331647) rfl rfl HT_.out (by kernel_rfl) (fun _ _ _ h => h) ⟨by rfl, ?_⟩ ?_ ?_; rotate_left; (intro w'; go_simp; with_reducible rfl); rotate_left; (simp only [Act.put, q1_, q2_, q3_, i64_w, i32_w]; rfl); refine pu_ (i := 26) (N := some 39) (v := ?_) (a' := ?_) (bs 48 117440511) rfl rfl HT_.out (by kernel_rfl) (fun _ _ _ h => h) ⟨by rfl, ?_⟩ ?_ ?_; rotate_left; (intro w'; go_simp; with_reducible rfl); rotate_left; (simp only [Act.put, q1_, q2_, q3_, i64_w, i32_w]; rfl)
                      refine pu_ (i := 27) (N := some 40) (v := ?_) (a' := ?_) (bs 48 251658239) rfl rfl HT_.out (by kernel_rfl) (fun _ _ _ h => h) ⟨by rfl, ?_⟩ ?_ ?_; rotate_left; (intro w'; go_simp; with_reducible rfl); rotate_left; (simp only [Act.put, q1_, q2_, q3_, i64_w, i32_w]; rfl); refine pu_ (i := 28) (N := some 41) (v := ?_) (a' := ?_) (bs 48 520093695) rfl rfl HT_.out (by kernel_rfl) (fun _ _ _ h => h) ⟨by rfl, ?_⟩ ?_ ?_; rotate_left; (intro w'; go_simp; with_reducible rfl); rotate_left; (simp only [Act.put, q1_, q2_, q3_, i64_w, i32_w]; rfl); refine pu_ (i := 29) (N := some 42) (v := ?_) (a' := ?_) (bs 48 1056964607) rfl rfl HT_.out (by kernel_rfl) (fun _ _ _ h => h) ⟨by rfl, ?_⟩ ?_ ?_; rotate_left; (intro w'; go_simp; with_reducible rfl); rotate_left; (simp only [Act.put, q1_, q2_, q3_, i64_w, i32_w]; rfl); refine take_ (i := 24) (N := some 37) (v := ?_) (a' := ?_) (bs 48 1073741823) rfl rfl (take_ofW HT_.out HW_.out (by kernel_rfl)) (fun _ _ _ h => h) (Or.inl ⟨by rfl, ?_⟩) hHeld ?_ ?_; rotate_left
                      · rintro w' ⟨s0, s1, s2, s3, s4, s5, s6, s7⟩
                        go_simp
                        with_reducible rfl
                      rotate_left
                      · simp only [Act.put, q1_, q2_, q3_, i64_w, i32_w]
                        rfl
                      refine take_ (i := 30) (N := some 43) (v := ?_) (a' := ?_) (bs 48 2147483647) rfl rfl (take_ofW HT_.out HW_.out (by kernel_rfl)) (fun _ _ _ h => h) (Or.inl ⟨by rfl, ?_⟩) hHeld ?_ ?_; rotate_left
                      · rintro w' ⟨s0, s1, s2, s3, s4, s5, s6, s7⟩
                        go_simp
                        with_reducible rfl
                      rotate_left
                      · simp only [Act.put, q1_, q2_, q3_, i64_w, i32_w]
                        rfl
                      refine pu_ (i := 31) (N := some 44) (v := ?_) (a' := ?_) (bs 48 4294967295) rfl rfl HT_.out (by kernel_rfl) (fun _ _ _ h => h) ⟨by rfl, ?_⟩ ?_ ?_; rotate_left; (intro w'; go_simp; with_reducible rfl); rotate_left; (simp only [Act.put, q1_, q2_, q3_, i64_w, i32_w]; rfl); refine pu_ (i := 32) (N := some 45) (v := ?_) (a' := ?_) (bs 48 8589934591) rfl rfl HT_.out (by kernel_rfl) (fun _ _ _ h => h) ⟨by rfl, ?_⟩ ?_ ?_; rotate_left; (intro w'; go_simp; with_reducible rfl); rotate_left; (simp only [Act.put, q1_, q2_, q3_, i64_w, i32_w]; rfl); refine pure_ (i := 33) (N := some 46) (v := undef) (a' := ?_) (bs 48 17179869183) rfl rfl (any_of HT_.out (by kernel_rfl)) (fun _ _ _ h => h) (Or.inr ⟨by rfl, rfl⟩) ?_ ?_; rotate_left
                      · simp only [Act.put, q1_, q2_, q3_, i64_w, i32_w]
                        rfl
                      refine pure_ (i := 34) (N := some 47) (v := undef) (a' := ?_) (bs 48 34359738367) rfl rfl (any_of HT_.out (by kernel_rfl)) (fun _ _ _ h => h) (Or.inr ⟨by rfl, rfl⟩) ?_ ?_; rotate_left
                      · simp only [Act.put, q1_, q2_, q3_, i64_w, i32_w]
                        rfl
                      refine pure_ (i := 35) (N := some 48) (v := undef) (a' := ?_) (bs 48 68719476735) rfl rfl (any_of HT_.out (by kernel_rfl)) (fun _ _ _ h => h) (Or.inr ⟨by rfl, rfl⟩) ?_ ?_; rotate_left
                      · simp only [Act.put, q1_, q2_, q3_, i64_w, i32_w]
                        rfl
                      refine pure_ (i := 36) (N := some 49) (v := undef) (a' := ?_) (bs 48 137438953471) rfl rfl (any_of HT_.out (by kernel_rfl)) (fun _ _ _ h => h) (Or.inr ⟨by rfl, rfl⟩) ?_ ?_; rotate_left
                      · simp only [Act.put, q1_, q2_, q3_, i64_w, i32_w]
                        rfl
                      refine pure_ (i := 37) (N := some 50) (v := undef) (a' := ?_) (bs 48 274877906943) rfl rfl (any_of HT_.out (by kernel_rfl)) (fun _ _ _ h => h) (Or.inr ⟨by rfl, rfl⟩) ?_ ?_; rotate_left
                      · simp only [Act.put, q1_, q2_, q3_, i64_w, i32_w]
                        rfl
                      refine pure_ (i := 38) (N := some 51) (v := undef) (a' := ?_) (bs 48 549755813887) rfl rfl (any_of HT_.out (by kernel_rfl)) (fun _ _ _ h => h) (Or.inr ⟨by rfl, rfl⟩) ?_ ?_; rotate_left
                      · simp only [Act.put, q1_, q2_, q3_, i64_w, i32_w]
                        rfl
                      refine pure_ (i := 39) (N := some 52) (v := undef) (a' := ?_) (bs 48 1099511627775) rfl rfl (any_of HT_.out (by kernel_rfl)) (fun _ _ _ h => h) (Or.inr ⟨by rfl, rfl⟩) ?_ ?_; rotate_left
                      · simp only [Act.put, q1_, q2_, q3_, i64_w, i32_w]
                        rfl
                      refine pure_ (i := 40) (N := some 53) (v := undef) (a' := ?_) (bs 48 2199023255551) rfl rfl (any_of HT_.out (by kernel_rfl)) (fun _ _ _ h => h) (Or.inr ⟨by rfl, rfl⟩) ?_ ?_; rotate_left
                      · simp only [Act.put, q1_, q2_, q3_, i64_w, i32_w]
                        rfl
                      refine pure_ (i := 41) (N := some 54) (v := undef) (a' := ?_) (bs 48 4398046511103) rfl rfl (any_of HT_.out (by kernel_rfl)) (fun _ _ _ h => h) (Or.inr ⟨by rfl, rfl⟩) ?_ ?_; rotate_left
                      · simp only [Act.put, q1_, q2_, q3_, i64_w, i32_w]
                        rfl
                      refine pure_ (i := 42) (N := some 55) (v := undef) (a' := ?_) (bs 48 8796093022207) rfl rfl (any_of HT_.out (by kernel_rfl)) (fun _ _ _ h => h) (Or.inr ⟨by rfl, rfl⟩) ?_ ?_; rotate_left
                      · simp only [Act.put, q1_, q2_, q3_, i64_w, i32_w]
                        rfl
                      refine pure_ (i := 43) (N := some 56) (v := undef) (a' := ?_) (bs 48 17592186044415) rfl rfl (any_of HT_.out (by kernel_rfl)) (fun _ _ _ h => h) (Or.inr ⟨by rfl, rfl⟩) ?_ ?_; rotate_left
                      · simp only [Act.put, q1_, q2_, q3_, i64_w, i32_w]
                        rfl
                      refine pure_ (i := 44) (N := some 57) (v := undef) (a' := ?_) (bs 48 35184372088831) rfl rfl (any_of HT_.out (by kernel_rfl)) (fun _ _ _ h => h) (Or.inr ⟨by rfl, rfl⟩) ?_ ?_; rotate_left
                      · simp only [Act.put, q1_, q2_, q3_, i64_w, i32_w]
                        rfl
                      refine pu_ (i := 45) (N := some 58) (v := ?_) (a' := ?_) (bs 48 70368744177663) rfl rfl HT_.out (by kernel_rfl) (fun _ _ _ h => h) ⟨by rfl, ?_⟩ ?_ ?_; rotate_left; (intro w'; go_simp; with_reducible rfl); rotate_left; (simp only [Act.put, q1_, q2_, q3_, i64_w, i32_w]; rfl); refine pu_ (i := 46) (N := some 59) (v := ?_) (a' := ?_) (bs 48 140737488355327) rfl rfl HT_.out (by kernel_rfl) (fun _ _ _ h => h) ⟨by rfl, ?_⟩ ?_ ?_; rotate_left; (intro w'; go_simp; with_reducible rfl); rotate_left; (simp only [Act.put, q1_, q2_, q3_, i64_w, i32_w]; rfl); refine pu_ (i := 47) (N := some 60) (v := ?_) (a' := ?_) (bs 48 281474976710655) rfl rfl HT_.out (by kernel_rfl) (fun _ _ _ h => h) ⟨by rfl, ?_⟩ ?_ ?_; rotate_left; (intro w'; go_simp; with_reducible rfl); rotate_left; (simp only [Act.put, q1_, q2_, q3_, i64_w, i32_w]; rfl); refine done_ (done_of HT_.out (by kernel_rfl)) ?_
                      try go_wp2
                      go_ret
                      exact ⟨by first | rfl | (simp [errW_none, errW_some] <;> rfl) | (simp only [← hji10]; first | rfl | (simp [errW_none, errW_some] <;> rfl)) | (simp [*, errW_none, errW_some] <;> rfl), by exact bel0 HB.out⟩
                    rw [if_neg c13] at H; have c13b0 : decide (((rd_T58 l0 x3_1).f0) ≤ ((rd_T58 l0 (ji10)).f0)) = false := decide_eq_false c13; clear c13
                    by_cases c15 : ((rd_T58 l0 x3_1).f1) ≥ ((rd_T58 l0 (ji10)).f1)
                    · rw [if_pos c15] at H
                      have c15b0 : decide (((rd_T58 l0 (ji10)).f1) ≤ ((rd_T58 l0 x3_1).f1)) = true := decide_eq_true c15; clear c15; obtain rfl := Option.some.inj H
                      try go_wp2
                      have n0_ := Aside0.mk (below_drew1 HB.out); clear HB; have HB := n0_; clear n0_; have p132 : 0 ≤ (x3_1 : Int) := of_decide_eq_true (by first | (with_reducible assumption) | assumption); have q132 : x3_1 < (l0.length : Int) := of_decide_eq_true (by first | (with_reducible assumption) | assumption); obtain ⟨ad132, e132, hx132_0, hx132_1⟩ := at_T58 HR0.out x3_1 p132 q132; have hw132_1 := hx132_1; have hw132_0 := hx132_0
                      cases e132
                      replace hx132_0 := (HB.out.cell (World.block_lt_of_cell? w _ hx132_0)).trans hx132_0; replace hx132_1 := (HB.out.cell (World.block_lt_of_cell? w _ hx132_1)).trans hx132_1; replace p132 := eq_true p132; replace q132 := eq_true q132; have p134 : 0 ≤ (x3_1 : Int) := of_decide_eq_true (by first | (with_reducible assumption) | assumption); have q134 : x3_1 < (l0.length : Int) := of_decide_eq_true (by first | (with_reducible assumption) | assumption); obtain ⟨ad134, e134, hx134_0, hx134_1⟩ := at_T58 HR0.out x3_1 p134 q134; have hw134_1 := hx134_1; have hw134_0 := hx134_0; obtain rfl : ad132 = ad134 := (by injection e134); replace hx134_0 := (HB.out.cell (World.block_lt_of_cell? w _ hx134_0)).trans hx134_0; replace hx134_1 := (HB.out.cell (World.block_lt_of_cell? w _ hx134_1)).trans hx134_1; replace p134 := eq_true p134; replace q134 := eq_true q134; have p136 : 0 ≤ (x3_1 : Int) := of_decide_eq_true (by first | (with_reducible assumption) | assumption); have q136 : x3_1 < (l0.length : Int) := of_decide_eq_true (by first | (with_reducible assumption) | assumption); obtain ⟨ad136, e136, hx136_0, hx136_1⟩ := at_T58 HR0.out x3_1 p136 q136; have hw136_1 := hx136_1; have hw136_0 := hx136_0; obtain rfl : ad132 = ad136 := (by injection e136); replace hx136_0 := (HB.out.cell (World.block_lt_of_cell? w _ hx136_0)).trans hx136_0; replace hx136_1 := (HB.out.cell (World.block_lt_of_cell? w _ hx136_1)).trans hx136_1; replace p136 := eq_true p136; replace q136 := eq_true q136
                      have p137 : 0 ≤ ((ji10) : Int) := of_decide_eq_true (by first | (with_reducible assumption) | assumption); have q137 : (ji10) < (l0.length : Int) := of_decide_eq_true (by first | (with_reducible assumption) | assumption); obtain ⟨ad137, e137, hx137_0, hx137_1⟩ := at_T58 HR0.out (ji10) p137 q137; have hw137_1 := hx137_1; have hw137_0 := hx137_0; obtain rfl : ad132 = ad137 := (by injection e137); replace hx137_0 := (HB.out.cell (World.block_lt_of_cell? w _ hx137_0)).trans hx137_0; replace hx137_1 := (HB.out.cell (World.block_lt_of_cell? w _ hx137_1)).trans hx137_1; replace p137 := eq_true p137; replace q137 := eq_true q137; have p138 : 0 ≤ (x3_1 : Int) := of_decide_eq_true (by first | (with_reducible assumption) | assumption); have q138 : x3_1 < (l0.length : Int) := of_decide_eq_true (by first | (with_reducible assumption) | assumption); obtain ⟨ad138, e138, hx138_0, hx138_1⟩ := at_T58 HR0.out x3_1 p138 q138; have hw138_1 := hx138_1; have hw138_0 := hx138_0; obtain rfl : ad132 = ad138 := (by injection e138); replace hx138_0 := (HB.out.cell (World.block_lt_of_cell? w _ hx138_0)).trans hx138_0; replace hx138_1 := (HB.out.cell (World.block_lt_of_cell? w _ hx138_1)).trans hx138_1; replace p138 := eq_true p138; replace q138 := eq_true q138; have p139 : 0 ≤ ((ji10) : Int) := of_decide_eq_true (by first | (with_reducible assumption) | assumption); have q139 : (ji10) < (l0.length : Int) := of_decide_eq_true (by first | (with_reducible assumption) | assumption); obtain ⟨ad139, e139, hx139_0, hx139_1⟩ := at_T58 HR0.out (ji10) p139 q139
                      have hw139_1 := hx139_1; have hw139_0 := hx139_0; obtain rfl : ad132 = ad139 := (by injection e139); replace hx139_0 := (HB.out.cell (World.block_lt_of_cell? w _ hx139_0)).trans hx139_0; replace hx139_1 := (HB.out.cell (World.block_lt_of_cell? w _ hx139_1)).trans hx139_1; replace p139 := eq_true p139; replace q139 := eq_true q139; refine start_ (n := 48) (S := fun w' => w'.cell? (ad132.add ((x3_1).toNat * 2)) = some (.int .i64 ((rd_T58 l0 x3_1).f0)) ∧ w'.cell? ⟨(ad132.add ((x3_1).toNat * 2)).block, (ad132.add ((x3_1).toNat * 2)).off + 1, none⟩ = some (.int .i64 ((rd_T58 l0 x3_1).f1)) ∧ w'.cell? (ad132.add ((x3_1).toNat * 2)) = some (.int .i64 ((rd_T58 l0 x3_1).f0)) ∧ w'.cell? ⟨(ad132.add ((x3_1).toNat * 2)).block, (ad132.add ((x3_1).toNat * 2)).off + 1, none⟩ = some (.int .i64 ((rd_T58 l0 x3_1).f1)) ∧ w'.cell? (ad132.add ((x3_1).toNat * 2)) = some (.int .i64 ((rd_T58 l0 x3_1).f0)) ∧ w'.cell? ⟨(ad132.add ((x3_1).toNat * 2)).block, (ad132.add ((x3_1).toNat * 2)).off + 1, none⟩ = some (.int .i64 ((rd_T58 l0 x3_1).f1)) ∧ w'.cell? (ad132.add (((ji10)).toNat * 2)) = some (.int .i64 ((rd_T58 l0 (ji10)).f0)) ∧ w'.cell? ⟨(ad132.add (((ji10)).toNat * 2)).block, (ad132.add (((ji10)).toNat * 2)).off + 1, none⟩ = some (.int .i64 ((rd_T58 l0 (ji10)).f1)) ∧ w'.cell? (ad132.add ((x3_1).toNat * 2)) = some (.int .i64 ((rd_T58 l0 x3_1).f0)) ∧ w'.cell? ⟨(ad132.add ((x3_1).toNat * 2)).block, (ad132.add ((x3_1).toNat * 2)).off + 1, none⟩ = some (.int .i64 ((rd_T58 l0 x3_1).f1)) ∧ w'.cell? (ad132.add (((ji10)).toNat * 2)) = some (.int .i64 ((rd_T58 l0 (ji10)).f0)) ∧ w'.cell? ⟨(ad132.add (((ji10)).toNat * 2)).block, (ad132.add (((ji10)).toNat * 2)).off + 1, none⟩ = some (.int .i64 ((rd_T58 l0 (ji10)).f1))) (ds := []) (bs 48 0) (by kernel_rfl) rfl rfl ⟨((HB.out.cell (World.block_lt_of_cell? w _ hw132_0)).trans hw132_0), ((HB.out.cell (World.block_lt_of_cell? w _ hw132_1)).trans hw132_1), ((HB.out.cell (World.block_lt_of_cell? w _ hw134_0)).trans hw134_0), ((HB.out.cell (World.block_lt_of_cell? w _ hw134_1)).trans hw134_1), ((HB.out.cell (World.block_lt_of_cell? w _ hw136_0)).trans hw136_0), ((HB.out.cell (World.block_lt_of_cell? w _ hw136_1)).trans hw136_1), ((HB.out.cell (World.block_lt_of_cell? w _ hw137_0)).trans hw137_0), ((HB.out.cell (World.block_lt_of_cell? w _ hw137_1)).trans hw137_1), ((HB.out.cell (World.block_lt_of_cell? w _ hw138_0)).trans hw138_0), ((HB.out.cell (World.block_lt_of_cell? w _ hw138_1)).trans hw138_1), ((HB.out.cell (World.block_lt_of_cell? w _ hw139_0)).trans hw139_0), ((HB.out.cell (World.block_lt_of_cell? w _ hw139_1)).trans hw139_1)⟩ (fun hHeld => ?_); refine with_tabW stopcockref23_list.tab6 stopcockref23_list.bits6 (fun HT_ HW_ => ?_)
                      generalize wr.drew = w16 at HB hx132_0 hx132_1 hx134_0 hx134_1 hx136_0 hx136_1 hx137_0 hx137_1 hx138_0 hx138_1 hx139_0 hx139_1 hHeld ⊢; refine pu_ (i := 0) (N := some 13) (v := ?_) (a' := ?_) (bs 48 1) rfl rfl HT_.out (by kernel_rfl) (fun _ _ _ h => h) ⟨by rfl, ?_⟩ ?_ ?_; rotate_left; (intro w'; go_simp; with_reducible rfl); rotate_left; (simp only [Act.put, q1_, q2_, q3_, i64_w, i32_w]; rfl); refine pu_ (i := 1) (N := some 14) (v := ?_) (a' := ?_) (bs 48 3) rfl rfl HT_.out (by kernel_rfl) (fun _ _ _ h => h) ⟨by rfl, ?_⟩ ?_ ?_; rotate_left; (intro w'; go_simp; with_reducible rfl); rotate_left; (simp only [Act.put, q1_, q2_, q3_, i64_w, i32_w]; rfl); refine pu_ (i := 2) (N := some 15) (v := ?_) (a' := ?_) (bs 48 7) rfl rfl HT_.out (by kernel_rfl) (fun _ _ _ h => h) ⟨by rfl, ?_⟩ ?_ ?_; rotate_left; (intro w'; go_simp; with_reducible rfl); rotate_left; (simp only [Act.put, q1_, q2_, q3_, i64_w, i32_w]; rfl); refine pu_ (i := 3) (N := some 16) (v := ?_) (a' := ?_) (bs 48 15) rfl rfl HT_.out (by kernel_rfl) (fun _ _ _ h => h) ⟨by rfl, ?_⟩ ?_ ?_; rotate_left; (intro w'; go_simp; with_reducible rfl); rotate_left; (simp only [Act.put, q1_, q2_, q3_, i64_w, i32_w]; rfl); refine take_ (i := 4) (N := some 17) (v := ?_) (a' := ?_) (bs 48 31) rfl rfl (take_ofW HT_.out HW_.out (by kernel_rfl)) (fun _ _ _ h => h) (Or.inl ⟨by rfl, ?_⟩) hHeld ?_ ?_; rotate_left
                      · rintro w' ⟨s0, s1, s2, s3, s4, s5, s6, s7, s8, s9, s10, s11⟩
                        go_simp
                        with_reducible rfl
                      rotate_left
                      · simp only [Act.put, q1_, q2_, q3_, i64_w, i32_w]
                        rfl
                      refine one_ (i := 5) (N := some 18) (bs 48 63) rfl rfl (one_of HT_.out (by kernel_rfl)) (by decide) (fun K hK => ?_); refine goes_ Try.func25 (by kernel_rfl) rfl #[.int .i64 ((rd_T58 l0 x3_1).f0), .int .i64 1099511627776] (by rfl) rfl rfl (by (try simp only [List.map_toArray, List.map_cons, List.map_nil]); first | done | rfl | (simp only [List.length_drop, List.length_take]; rfl)) ?_
                      with_reducible refine (stopcockref23_within.calls ((rd_T58 l0 x3_1).f0) 1099511627776 true _ A5.out).mono ?_
                      rintro e w' ⟨rfl, ⟨nd, rfl⟩⟩
                      refine ⟨_, rfl, ?_⟩; refine hK.out _ _ ⟨((HB.out.cell (World.block_lt_of_cell? w _ hw132_0)).trans hw132_0), ((HB.out.cell (World.block_lt_of_cell? w _ hw132_1)).trans hw132_1), ((HB.out.cell (World.block_lt_of_cell? w _ hw134_0)).trans hw134_0), ((HB.out.cell (World.block_lt_of_cell? w _ hw134_1)).trans hw134_1), ((HB.out.cell (World.block_lt_of_cell? w _ hw136_0)).trans hw136_0), ((HB.out.cell (World.block_lt_of_cell? w _ hw136_1)).trans hw136_1), ((HB.out.cell (World.block_lt_of_cell? w _ hw137_0)).trans hw137_0), ((HB.out.cell (World.block_lt_of_cell? w _ hw137_1)).trans hw137_1), ((HB.out.cell (World.block_lt_of_cell? w _ hw138_0)).trans hw138_0), ((HB.out.cell (World.block_lt_of_cell? w _ hw138_1)).trans hw138_1), ((HB.out.cell (World.block_lt_of_cell? w _ hw139_0)).trans hw139_0), ((HB.out.cell (World.block_lt_of_cell? w _ hw139_1)).trans hw139_1)⟩ (fun hHeld => ?_); clear hK K; refine norm_ (a' := ?_) ?_ ?_; rotate_left
                      · show Act.put _ (some 18) _ = _
                        simp only [Act.put, q1_, q2_, q3_, i64_w, i32_w]
                        rfl
                      refine pu_ (i := 6) (N := some 19) (v := ?_) (a' := ?_) (bs 48 127) rfl rfl HT_.out (by kernel_rfl) (fun _ _ _ h => h) ⟨by rfl, ?_⟩ ?_ ?_; rotate_left; (intro w'; go_simp; with_reducible rfl); rotate_left; (simp only [Act.put, q1_, q2_, q3_, i64_w, i32_w]; rfl); refine pu_ (i := 7) (N := some 20) (v := ?_) (a' := ?_) (bs 48 255) rfl rfl HT_.out (by kernel_rfl) (fun _ _ _ h => h) ⟨by rfl, ?_⟩ ?_ ?_; rotate_left; (intro w'; go_simp; with_reducible rfl); rotate_left; (simp only [Act.put, q1_, q2_, q3_, i64_w, i32_w]; rfl); refine pu_ (i := 8) (N := some 21) (v := ?_) (a' := ?_) (bs 48 511) rfl rfl HT_.out (by kernel_rfl) (fun _ _ _ h => h) ⟨by rfl, ?_⟩ ?_ ?_; rotate_left; (intro w'; go_simp; with_reducible rfl); rotate_left; (simp only [Act.put, q1_, q2_, q3_, i64_w, i32_w]; rfl); refine pu_ (i := 9) (N := some 22) (v := ?_) (a' := ?_) (bs 48 1023) rfl rfl HT_.out (by kernel_rfl) (fun _ _ _ h => h) ⟨by rfl, ?_⟩ ?_ ?_; rotate_left; (intro w'; go_simp; with_reducible rfl); rotate_left; (simp only [Act.put, q1_, q2_, q3_, i64_w, i32_w]; rfl); refine pu_ (i := 10) (N := some 23) (v := ?_) (a' := ?_) (bs 48 2047) rfl rfl HT_.out (by kernel_rfl) (fun _ _ _ h => h) ⟨by rfl, ?_⟩ ?_ ?_; rotate_left; (intro w'; go_simp; with_reducible rfl); rotate_left; (simp only [Act.put, q1_, q2_, q3_, i64_w, i32_w]; rfl); refine pu_ (i := 11) (N := some 24) (v := ?_) (a' := ?_) (bs 48 4095) rfl rfl HT_.out (by kernel_rfl) (fun _ _ _ h => h) ⟨by rfl, ?_⟩ ?_ ?_; rotate_left; (intro w'; go_simp; with_reducible rfl); rotate_left; (simp only [Act.put, q1_, q2_, q3_, i64_w, i32_w]; rfl)
                      refine take_ (i := 12) (N := some 25) (v := ?_) (a' := ?_) (bs 48 8191) rfl rfl (take_ofW HT_.out HW_.out (by kernel_rfl)) (fun _ _ _ h => h) (Or.inl ⟨by rfl, ?_⟩) hHeld ?_ ?_; rotate_left
                      · rintro w' ⟨s0, s1, s2, s3, s4, s5, s6, s7, s8, s9, s10, s11⟩
                        go_simp
                        with_reducible rfl
                      rotate_left
                      · simp only [Act.put, q1_, q2_, q3_, i64_w, i32_w]
                        rfl
                      refine one_ (i := 13) (N := some 26) (bs 48 16383) rfl rfl (one_of HT_.out (by kernel_rfl)) (by decide) (fun K hK => ?_); refine goes_ Try.func25 (by kernel_rfl) rfl #[.int .i64 ((rd_T58 l0 x3_1).f1), .int .i64 1073741824] (by rfl) rfl rfl (by (try simp only [List.map_toArray, List.map_cons, List.map_nil]); first | done | rfl | (simp only [List.length_drop, List.length_take]; rfl)) ?_
                      with_reducible refine (stopcockref23_within.calls ((rd_T58 l0 x3_1).f1) 1073741824 true _ A7.out).mono ?_
                      rintro e w' ⟨rfl, ⟨nd, rfl⟩⟩
                      refine ⟨_, rfl, ?_⟩; refine hK.out _ _ ⟨((HB.out.cell (World.block_lt_of_cell? w _ hw132_0)).trans hw132_0), ((HB.out.cell (World.block_lt_of_cell? w _ hw132_1)).trans hw132_1), ((HB.out.cell (World.block_lt_of_cell? w _ hw134_0)).trans hw134_0), ((HB.out.cell (World.block_lt_of_cell? w _ hw134_1)).trans hw134_1), ((HB.out.cell (World.block_lt_of_cell? w _ hw136_0)).trans hw136_0), ((HB.out.cell (World.block_lt_of_cell? w _ hw136_1)).trans hw136_1), ((HB.out.cell (World.block_lt_of_cell? w _ hw137_0)).trans hw137_0), ((HB.out.cell (World.block_lt_of_cell? w _ hw137_1)).trans hw137_1), ((HB.out.cell (World.block_lt_of_cell? w _ hw138_0)).trans hw138_0), ((HB.out.cell (World.block_lt_of_cell? w _ hw138_1)).trans hw138_1), ((HB.out.cell (World.block_lt_of_cell? w _ hw139_0)).trans hw139_0), ((HB.out.cell (World.block_lt_of_cell? w _ hw139_1)).trans hw139_1)⟩ (fun hHeld => ?_); clear hK K; refine norm_ (a' := ?_) ?_ ?_; rotate_left
                      · show Act.put _ (some 26) _ = _
                        simp only [Act.put, q1_, q2_, q3_, i64_w, i32_w]
                        rfl
                      refine pu_ (i := 14) (N := some 27) (v := ?_) (a' := ?_) (bs 48 32767) rfl rfl HT_.out (by kernel_rfl) (fun _ _ _ h => h) ⟨by rfl, ?_⟩ ?_ ?_; rotate_left; (intro w'; go_simp; with_reducible rfl); rotate_left; (simp only [Act.put, q1_, q2_, q3_, i64_w, i32_w]; rfl); refine pu_ (i := 15) (N := some 28) (v := ?_) (a' := ?_) (bs 48 65535) rfl rfl HT_.out (by kernel_rfl) (fun _ _ _ h => h) ⟨by rfl, ?_⟩ ?_ ?_; rotate_left; (intro w'; go_simp; with_reducible rfl); rotate_left; (simp only [Act.put, q1_, q2_, q3_, i64_w, i32_w]; rfl); refine pu_ (i := 16) (N := some 29) (v := ?_) (a' := ?_) (bs 48 131071) rfl rfl HT_.out (by kernel_rfl) (fun _ _ _ h => h) ⟨by rfl, ?_⟩ ?_ ?_; rotate_left; (intro w'; go_simp; with_reducible rfl); rotate_left; (simp only [Act.put, q1_, q2_, q3_, i64_w, i32_w]; rfl); refine pu_ (i := 17) (N := some 30) (v := ?_) (a' := ?_) (bs 48 262143) rfl rfl HT_.out (by kernel_rfl) (fun _ _ _ h => h) ⟨by rfl, ?_⟩ ?_ ?_; rotate_left; (intro w'; go_simp; with_reducible rfl); rotate_left; (simp only [Act.put, q1_, q2_, q3_, i64_w, i32_w]; rfl); refine pu_ (i := 18) (N := some 31) (v := ?_) (a' := ?_) (bs 48 524287) rfl rfl HT_.out (by kernel_rfl) (fun _ _ _ h => h) ⟨by rfl, ?_⟩ ?_ ?_; rotate_left; (intro w'; go_simp; with_reducible rfl); rotate_left; (simp only [Act.put, q1_, q2_, q3_, i64_w, i32_w]; rfl); refine pu_ (i := 19) (N := some 32) (v := ?_) (a' := ?_) (bs 48 1048575) rfl rfl HT_.out (by kernel_rfl) (fun _ _ _ h => h) ⟨by rfl, ?_⟩ ?_ ?_; rotate_left; (intro w'; go_simp; with_reducible rfl); rotate_left; (simp only [Act.put, q1_, q2_, q3_, i64_w, i32_w]; rfl)
                      refine pu_ (i := 20) (N := some 33) (v := ?_) (a' := ?_) (bs 48 2097151) rfl rfl HT_.out (by kernel_rfl) (fun _ _ _ h => h) ⟨by rfl, ?_⟩ ?_ ?_; rotate_left; (intro w'; go_simp; with_reducible rfl); rotate_left; (simp only [Act.put, q1_, q2_, q3_, i64_w, i32_w]; rfl); refine pu_ (i := 21) (N := some 34) (v := ?_) (a' := ?_) (bs 48 4194303) rfl rfl HT_.out (by kernel_rfl) (fun _ _ _ h => h) ⟨by rfl, ?_⟩ ?_ ?_; rotate_left; (intro w'; go_simp; with_reducible rfl); rotate_left; (simp only [Act.put, q1_, q2_, q3_, i64_w, i32_w]; rfl); refine pu_ (i := 22) (N := some 35) (v := ?_) (a' := ?_) (bs 48 8388607) rfl rfl HT_.out (by kernel_rfl) (fun _ _ _ h => h) ⟨by rfl, ?_⟩ ?_ ?_; rotate_left; (intro w'; go_simp; with_reducible rfl); rotate_left; (simp only [Act.put, q1_, q2_, q3_, i64_w, i32_w]; rfl); refine pu_ (i := 23) (N := some 36) (v := ?_) (a' := ?_) (bs 48 16777215) rfl rfl HT_.out (by kernel_rfl) (fun _ _ _ h => h) ⟨by rfl, ?_⟩ ?_ ?_; rotate_left; (intro w'; go_simp; with_reducible rfl); rotate_left; (simp only [Act.put, q1_, q2_, q3_, i64_w, i32_w]; rfl); refine pu_ (i := 25) (N := some 38) (v := ?_) (a' := ?_) (bs 48 50331647) rfl rfl HT_.out (by kernel_rfl) (fun _ _ _ h => h) ⟨by rfl, ?_⟩ ?_ ?_; rotate_left; (intro w'; go_simp; with_reducible rfl); rotate_left; (simp only [Act.put, q1_, q2_, q3_, i64_w, i32_w]; rfl); refine pu_ (i := 26) (N := some 39) (v := ?_) (a' := ?_) (bs 48 117440511) rfl rfl HT_.out (by kernel_rfl) (fun _ _ _ h => h) ⟨by rfl, ?_⟩ ?_ ?_; rotate_left; (intro w'; go_simp; with_reducible rfl); rotate_left; (simp only [Act.put, q1_, q2_, q3_, i64_w, i32_w]; rfl)
                      refine pu_ (i := 27) (N := some 40) (v := ?_) (a' := ?_) (bs 48 251658239) rfl rfl HT_.out (by kernel_rfl) (fun _ _ _ h => h) ⟨by rfl, ?_⟩ ?_ ?_; rotate_left; (intro w'; go_simp; with_reducible rfl); rotate_left; (simp only [Act.put, q1_, q2_, q3_, i64_w, i32_w]; rfl); refine pu_ (i := 28) (N := some 41) (v := ?_) (a' := ?_) (bs 48 520093695) rfl rfl HT_.out (by kernel_rfl) (fun _ _ _ h => h) ⟨by rfl, ?_⟩ ?_ ?_; rotate_left; (intro w'; go_simp; with_reducible rfl); rotate_left; (simp only [Act.put, q1_, q2_, q3_, i64_w, i32_w]; rfl); refine pu_ (i := 29) (N := some 42) (v := ?_) (a' := ?_) (bs 48 1056964607) rfl rfl HT_.out (by kernel_rfl) (fun _ _ _ h => h) ⟨by rfl, ?_⟩ ?_ ?_; rotate_left; (intro w'; go_simp; with_reducible rfl); rotate_left; (simp only [Act.put, q1_, q2_, q3_, i64_w, i32_w]; rfl); refine take_ (i := 24) (N := some 37) (v := ?_) (a' := ?_) (bs 48 1073741823) rfl rfl (take_ofW HT_.out HW_.out (by kernel_rfl)) (fun _ _ _ h => h) (Or.inl ⟨by rfl, ?_⟩) hHeld ?_ ?_; rotate_left
                      · rintro w' ⟨s0, s1, s2, s3, s4, s5, s6, s7, s8, s9, s10, s11⟩
                        go_simp
                        with_reducible rfl
                      rotate_left
                      · simp only [Act.put, q1_, q2_, q3_, i64_w, i32_w]
                        rfl
                      refine take_ (i := 30) (N := some 43) (v := ?_) (a' := ?_) (bs 48 2147483647) rfl rfl (take_ofW HT_.out HW_.out (by kernel_rfl)) (fun _ _ _ h => h) (Or.inl ⟨by rfl, ?_⟩) hHeld ?_ ?_; rotate_left
                      · rintro w' ⟨s0, s1, s2, s3, s4, s5, s6, s7, s8, s9, s10, s11⟩
                        go_simp
                        with_reducible rfl
                      rotate_left
                      · simp only [Act.put, q1_, q2_, q3_, i64_w, i32_w]
                        rfl
                      refine pu_ (i := 31) (N := some 44) (v := ?_) (a' := ?_) (bs 48 4294967295) rfl rfl HT_.out (by kernel_rfl) (fun _ _ _ h => h) ⟨by rfl, ?_⟩ ?_ ?_; rotate_left; (intro w'; go_simp; with_reducible rfl); rotate_left; (simp only [Act.put, q1_, q2_, q3_, i64_w, i32_w]; rfl); refine pu_ (i := 32) (N := some 45) (v := ?_) (a' := ?_) (bs 48 8589934591) rfl rfl HT_.out (by kernel_rfl) (fun _ _ _ h => h) ⟨by rfl, ?_⟩ ?_ ?_; rotate_left; (intro w'; go_simp; with_reducible rfl); rotate_left; (simp only [Act.put, q1_, q2_, q3_, i64_w, i32_w]; rfl); refine pu_ (i := 33) (N := some 46) (v := ?_) (a' := ?_) (bs 48 17179869183) rfl rfl HT_.out (by kernel_rfl) (fun _ _ _ h => h) ⟨by rfl, ?_⟩ ?_ ?_; rotate_left; (intro w'; go_simp; with_reducible rfl); rotate_left; (simp only [Act.put, q1_, q2_, q3_, i64_w, i32_w]; rfl); refine pu_ (i := 34) (N := some 47) (v := ?_) (a' := ?_) (bs 48 34359738367) rfl rfl HT_.out (by kernel_rfl) (fun _ _ _ h => h) ⟨by rfl, ?_⟩ ?_ ?_; rotate_left; (intro w'; go_simp; with_reducible rfl); rotate_left; (simp only [Act.put, q1_, q2_, q3_, i64_w, i32_w]; rfl); refine pu_ (i := 35) (N := some 48) (v := ?_) (a' := ?_) (bs 48 68719476735) rfl rfl HT_.out (by kernel_rfl) (fun _ _ _ h => h) ⟨by rfl, ?_⟩ ?_ ?_; rotate_left; (intro w'; go_simp; with_reducible rfl); rotate_left; (simp only [Act.put, q1_, q2_, q3_, i64_w, i32_w]; rfl); refine pu_ (i := 36) (N := some 49) (v := ?_) (a' := ?_) (bs 48 137438953471) rfl rfl HT_.out (by kernel_rfl) (fun _ _ _ h => h) ⟨by rfl, ?_⟩ ?_ ?_; rotate_left; (intro w'; go_simp; with_reducible rfl); rotate_left; (simp only [Act.put, q1_, q2_, q3_, i64_w, i32_w]; rfl)
                      refine pu_ (i := 38) (N := some 51) (v := ?_) (a' := ?_) (bs 48 412316860415) rfl rfl HT_.out (by kernel_rfl) (fun _ _ _ h => h) ⟨by rfl, ?_⟩ ?_ ?_; rotate_left; (intro w'; go_simp; with_reducible rfl); rotate_left; (simp only [Act.put, q1_, q2_, q3_, i64_w, i32_w]; rfl); refine pu_ (i := 39) (N := some 52) (v := ?_) (a' := ?_) (bs 48 962072674303) rfl rfl HT_.out (by kernel_rfl) (fun _ _ _ h => h) ⟨by rfl, ?_⟩ ?_ ?_; rotate_left; (intro w'; go_simp; with_reducible rfl); rotate_left; (simp only [Act.put, q1_, q2_, q3_, i64_w, i32_w]; rfl); refine pu_ (i := 40) (N := some 53) (v := ?_) (a' := ?_) (bs 48 2061584302079) rfl rfl HT_.out (by kernel_rfl) (fun _ _ _ h => h) ⟨by rfl, ?_⟩ ?_ ?_; rotate_left; (intro w'; go_simp; with_reducible rfl); rotate_left; (simp only [Act.put, q1_, q2_, q3_, i64_w, i32_w]; rfl); refine pu_ (i := 41) (N := some 54) (v := ?_) (a' := ?_) (bs 48 4260607557631) rfl rfl HT_.out (by kernel_rfl) (fun _ _ _ h => h) ⟨by rfl, ?_⟩ ?_ ?_; rotate_left; (intro w'; go_simp; with_reducible rfl); rotate_left; (simp only [Act.put, q1_, q2_, q3_, i64_w, i32_w]; rfl); refine pu_ (i := 42) (N := some 55) (v := ?_) (a' := ?_) (bs 48 8658654068735) rfl rfl HT_.out (by kernel_rfl) (fun _ _ _ h => h) ⟨by rfl, ?_⟩ ?_ ?_; rotate_left; (intro w'; go_simp; with_reducible rfl); rotate_left; (simp only [Act.put, q1_, q2_, q3_, i64_w, i32_w]; rfl); refine take_ (i := 37) (N := some 50) (v := ?_) (a' := ?_) (bs 48 8796093022207) rfl rfl (take_ofW HT_.out HW_.out (by kernel_rfl)) (fun _ _ _ h => h) (Or.inl ⟨by rfl, ?_⟩) hHeld ?_ ?_
                      rotate_left
                      · rintro w' ⟨s0, s1, s2, s3, s4, s5, s6, s7, s8, s9, s10, s11⟩
                        go_simp
                        with_reducible rfl
                      rotate_left
                      · simp only [Act.put, q1_, q2_, q3_, i64_w, i32_w]
                        rfl
                      refine take_ (i := 43) (N := some 56) (v := ?_) (a' := ?_) (bs 48 17592186044415) rfl rfl (take_ofW HT_.out HW_.out (by kernel_rfl)) (fun _ _ _ h => h) (Or.inl ⟨by rfl, ?_⟩) hHeld ?_ ?_; rotate_left
                      · rintro w' ⟨s0, s1, s2, s3, s4, s5, s6, s7, s8, s9, s10, s11⟩
                        go_simp
                        with_reducible rfl
                      rotate_left
                      · simp only [Act.put, q1_, q2_, q3_, i64_w, i32_w]
                        rfl
                      refine pu_ (i := 44) (N := some 57) (v := ?_) (a' := ?_) (bs 48 35184372088831) rfl rfl HT_.out (by kernel_rfl) (fun _ _ _ h => h) ⟨by rfl, ?_⟩ ?_ ?_; rotate_left; (intro w'; go_simp; with_reducible rfl); rotate_left; (simp only [Act.put, q1_, q2_, q3_, i64_w, i32_w]; rfl); refine pu_ (i := 45) (N := some 58) (v := ?_) (a' := ?_) (bs 48 70368744177663) rfl rfl HT_.out (by kernel_rfl) (fun _ _ _ h => h) ⟨by rfl, ?_⟩ ?_ ?_; rotate_left; (intro w'; go_simp; with_reducible rfl); rotate_left; (simp only [Act.put, q1_, q2_, q3_, i64_w, i32_w]; rfl); refine pu_ (i := 46) (N := some 59) (v := ?_) (a' := ?_) (bs 48 140737488355327) rfl rfl HT_.out (by kernel_rfl) (fun _ _ _ h => h) ⟨by rfl, ?_⟩ ?_ ?_; rotate_left; (intro w'; go_simp; with_reducible rfl); rotate_left; (simp only [Act.put, q1_, q2_, q3_, i64_w, i32_w]; rfl); refine pu_ (i := 47) (N := some 60) (v := ?_) (a' := ?_) (bs 48 281474976710655) rfl rfl HT_.out (by kernel_rfl) (fun _ _ _ h => h) ⟨by rfl, ?_⟩ ?_ ?_; rotate_left; (intro w'; go_simp; with_reducible rfl); rotate_left; (simp only [Act.put, q1_, q2_, q3_, i64_w, i32_w]; rfl); refine done_ (done_of HT_.out (by kernel_rfl)) ?_
                      try go_wp2
                      go_ret
                      exact ⟨by first | rfl | (simp [errW_none, errW_some] <;> rfl) | (simp only [← hji10]; first | rfl | (simp [errW_none, errW_some] <;> rfl)) | (simp [*, errW_none, errW_some] <;> rfl), by exact bel0 HB.out⟩
                    rw [if_neg c15] at H; have c15b0 : decide (((rd_T58 l0 (ji10)).f1) ≤ ((rd_T58 l0 x3_1).f1)) = false := decide_eq_false c15; clear c15; have H' := Aside0.mk H; clear H
                    try go_wp2
                    have n0_ := Aside0.mk (below_drew1 HB.out); clear HB; have HB := n0_; clear n0_; have p132 : 0 ≤ (x3_1 : Int) := of_decide_eq_true (by first | (with_reducible assumption) | assumption); have q132 : x3_1 < (l0.length : Int) := of_decide_eq_true (by first | (with_reducible assumption) | assumption); obtain ⟨ad132, e132, hx132_0, hx132_1⟩ := at_T58 HR0.out x3_1 p132 q132; have hw132_1 := hx132_1; have hw132_0 := hx132_0
                    cases e132
                    replace hx132_0 := (HB.out.cell (World.block_lt_of_cell? w _ hx132_0)).trans hx132_0; replace hx132_1 := (HB.out.cell (World.block_lt_of_cell? w _ hx132_1)).trans hx132_1; replace p132 := eq_true p132; replace q132 := eq_true q132; have p134 : 0 ≤ (x3_1 : Int) := of_decide_eq_true (by first | (with_reducible assumption) | assumption); have q134 : x3_1 < (l0.length : Int) := of_decide_eq_true (by first | (with_reducible assumption) | assumption); obtain ⟨ad134, e134, hx134_0, hx134_1⟩ := at_T58 HR0.out x3_1 p134 q134; have hw134_1 := hx134_1; have hw134_0 := hx134_0; obtain rfl : ad132 = ad134 := (by injection e134); replace hx134_0 := (HB.out.cell (World.block_lt_of_cell? w _ hx134_0)).trans hx134_0; replace hx134_1 := (HB.out.cell (World.block_lt_of_cell? w _ hx134_1)).trans hx134_1; replace p134 := eq_true p134; replace q134 := eq_true q134; have p136 : 0 ≤ (x3_1 : Int) := of_decide_eq_true (by first | (with_reducible assumption) | assumption); have q136 : x3_1 < (l0.length : Int) := of_decide_eq_true (by first | (with_reducible assumption) | assumption); obtain ⟨ad136, e136, hx136_0, hx136_1⟩ := at_T58 HR0.out x3_1 p136 q136; have hw136_1 := hx136_1; have hw136_0 := hx136_0; obtain rfl : ad132 = ad136 := (by injection e136); replace hx136_0 := (HB.out.cell (World.block_lt_of_cell? w _ hx136_0)).trans hx136_0; replace hx136_1 := (HB.out.cell (World.block_lt_of_cell? w _ hx136_1)).trans hx136_1; replace p136 := eq_true p136; replace q136 := eq_true q136; have p137 : 0 ≤ ((ji10) : Int) := of_decide_eq_true (by first | (with_reducible assumption) | assumption)
                    have q137 : (ji10) < (l0.length : Int) := of_decide_eq_true (by first | (with_reducible assumption) | assumption); obtain ⟨ad137, e137, hx137_0, hx137_1⟩ := at_T58 HR0.out (ji10) p137 q137; have hw137_1 := hx137_1; have hw137_0 := hx137_0; obtain rfl : ad132 = ad137 := (by injection e137); replace hx137_0 := (HB.out.cell (World.block_lt_of_cell? w _ hx137_0)).trans hx137_0; replace hx137_1 := (HB.out.cell (World.block_lt_of_cell? w _ hx137_1)).trans hx137_1; replace p137 := eq_true p137; replace q137 := eq_true q137; have p138 : 0 ≤ (x3_1 : Int) := of_decide_eq_true (by first | (with_reducible assumption) | assumption); have q138 : x3_1 < (l0.length : Int) := of_decide_eq_true (by first | (with_reducible assumption) | assumption); obtain ⟨ad138, e138, hx138_0, hx138_1⟩ := at_T58 HR0.out x3_1 p138 q138; have hw138_1 := hx138_1; have hw138_0 := hx138_0; obtain rfl : ad132 = ad138 := (by injection e138); replace hx138_0 := (HB.out.cell (World.block_lt_of_cell? w _ hx138_0)).trans hx138_0; replace hx138_1 := (HB.out.cell (World.block_lt_of_cell? w _ hx138_1)).trans hx138_1; replace p138 := eq_true p138; replace q138 := eq_true q138; have p139 : 0 ≤ ((ji10) : Int) := of_decide_eq_true (by first | (with_reducible assumption) | assumption); have q139 : (ji10) < (l0.length : Int) := of_decide_eq_true (by first | (with_reducible assumption) | assumption); obtain ⟨ad139, e139, hx139_0, hx139_1⟩ := at_T58 HR0.out (ji10) p139 q139; have hw139_1 := hx139_1; have hw139_0 := hx139_0
                    obtain rfl : ad132 = ad139 := (by injection e139); replace hx139_0 := (HB.out.cell (World.block_lt_of_cell? w _ hx139_0)).trans hx139_0; replace hx139_1 := (HB.out.cell (World.block_lt_of_cell? w _ hx139_1)).trans hx139_1; replace p139 := eq_true p139; replace q139 := eq_true q139; refine start_ (n := 48) (S := fun w' => w'.cell? (ad132.add ((x3_1).toNat * 2)) = some (.int .i64 ((rd_T58 l0 x3_1).f0)) ∧ w'.cell? ⟨(ad132.add ((x3_1).toNat * 2)).block, (ad132.add ((x3_1).toNat * 2)).off + 1, none⟩ = some (.int .i64 ((rd_T58 l0 x3_1).f1)) ∧ w'.cell? (ad132.add ((x3_1).toNat * 2)) = some (.int .i64 ((rd_T58 l0 x3_1).f0)) ∧ w'.cell? ⟨(ad132.add ((x3_1).toNat * 2)).block, (ad132.add ((x3_1).toNat * 2)).off + 1, none⟩ = some (.int .i64 ((rd_T58 l0 x3_1).f1)) ∧ w'.cell? (ad132.add ((x3_1).toNat * 2)) = some (.int .i64 ((rd_T58 l0 x3_1).f0)) ∧ w'.cell? ⟨(ad132.add ((x3_1).toNat * 2)).block, (ad132.add ((x3_1).toNat * 2)).off + 1, none⟩ = some (.int .i64 ((rd_T58 l0 x3_1).f1)) ∧ w'.cell? (ad132.add (((ji10)).toNat * 2)) = some (.int .i64 ((rd_T58 l0 (ji10)).f0)) ∧ w'.cell? ⟨(ad132.add (((ji10)).toNat * 2)).block, (ad132.add (((ji10)).toNat * 2)).off + 1, none⟩ = some (.int .i64 ((rd_T58 l0 (ji10)).f1)) ∧ w'.cell? (ad132.add ((x3_1).toNat * 2)) = some (.int .i64 ((rd_T58 l0 x3_1).f0)) ∧ w'.cell? ⟨(ad132.add ((x3_1).toNat * 2)).block, (ad132.add ((x3_1).toNat * 2)).off + 1, none⟩ = some (.int .i64 ((rd_T58 l0 x3_1).f1)) ∧ w'.cell? (ad132.add (((ji10)).toNat * 2)) = some (.int .i64 ((rd_T58 l0 (ji10)).f0)) ∧ w'.cell? ⟨(ad132.add (((ji10)).toNat * 2)).block, (ad132.add (((ji10)).toNat * 2)).off + 1, none⟩ = some (.int .i64 ((rd_T58 l0 (ji10)).f1))) (ds := []) (bs 48 0) (by kernel_rfl) rfl rfl ⟨((HB.out.cell (World.block_lt_of_cell? w _ hw132_0)).trans hw132_0), ((HB.out.cell (World.block_lt_of_cell? w _ hw132_1)).trans hw132_1), ((HB.out.cell (World.block_lt_of_cell? w _ hw134_0)).trans hw134_0), ((HB.out.cell (World.block_lt_of_cell? w _ hw134_1)).trans hw134_1), ((HB.out.cell (World.block_lt_of_cell? w _ hw136_0)).trans hw136_0), ((HB.out.cell (World.block_lt_of_cell? w _ hw136_1)).trans hw136_1), ((HB.out.cell (World.block_lt_of_cell? w _ hw137_0)).trans hw137_0), ((HB.out.cell (World.block_lt_of_cell? w _ hw137_1)).trans hw137_1), ((HB.out.cell (World.block_lt_of_cell? w _ hw138_0)).trans hw138_0), ((HB.out.cell (World.block_lt_of_cell? w _ hw138_1)).trans hw138_1), ((HB.out.cell (World.block_lt_of_cell? w _ hw139_0)).trans hw139_0), ((HB.out.cell (World.block_lt_of_cell? w _ hw139_1)).trans hw139_1)⟩ (fun hHeld => ?_); refine with_tabW stopcockref23_list.tab6 stopcockref23_list.bits6 (fun HT_ HW_ => ?_)
                    generalize wr.drew = w17 at HB hx132_0 hx132_1 hx134_0 hx134_1 hx136_0 hx136_1 hx137_0 hx137_1 hx138_0 hx138_1 hx139_0 hx139_1 hHeld ⊢; refine pu_ (i := 0) (N := some 13) (v := ?_) (a' := ?_) (bs 48 1) rfl rfl HT_.out (by kernel_rfl) (fun _ _ _ h => h) ⟨by rfl, ?_⟩ ?_ ?_; rotate_left; (intro w'; go_simp; with_reducible rfl); rotate_left; (simp only [Act.put, q1_, q2_, q3_, i64_w, i32_w]; rfl); refine pu_ (i := 1) (N := some 14) (v := ?_) (a' := ?_) (bs 48 3) rfl rfl HT_.out (by kernel_rfl) (fun _ _ _ h => h) ⟨by rfl, ?_⟩ ?_ ?_; rotate_left; (intro w'; go_simp; with_reducible rfl); rotate_left; (simp only [Act.put, q1_, q2_, q3_, i64_w, i32_w]; rfl); refine pu_ (i := 2) (N := some 15) (v := ?_) (a' := ?_) (bs 48 7) rfl rfl HT_.out (by kernel_rfl) (fun _ _ _ h => h) ⟨by rfl, ?_⟩ ?_ ?_; rotate_left; (intro w'; go_simp; with_reducible rfl); rotate_left; (simp only [Act.put, q1_, q2_, q3_, i64_w, i32_w]; rfl); refine pu_ (i := 3) (N := some 16) (v := ?_) (a' := ?_) (bs 48 15) rfl rfl HT_.out (by kernel_rfl) (fun _ _ _ h => h) ⟨by rfl, ?_⟩ ?_ ?_; rotate_left; (intro w'; go_simp; with_reducible rfl); rotate_left; (simp only [Act.put, q1_, q2_, q3_, i64_w, i32_w]; rfl); refine take_ (i := 4) (N := some 17) (v := ?_) (a' := ?_) (bs 48 31) rfl rfl (take_ofW HT_.out HW_.out (by kernel_rfl)) (fun _ _ _ h => h) (Or.inl ⟨by rfl, ?_⟩) hHeld ?_ ?_; rotate_left
                    · rintro w' ⟨s0, s1, s2, s3, s4, s5, s6, s7, s8, s9, s10, s11⟩
                      go_simp
                      with_reducible rfl
                    rotate_left
                    · simp only [Act.put, q1_, q2_, q3_, i64_w, i32_w]
                      rfl
                    refine one_ (i := 5) (N := some 18) (bs 48 63) rfl rfl (one_of HT_.out (by kernel_rfl)) (by decide) (fun K hK => ?_); refine goes_ Try.func25 (by kernel_rfl) rfl #[.int .i64 ((rd_T58 l0 x3_1).f0), .int .i64 1099511627776] (by rfl) rfl rfl (by (try simp only [List.map_toArray, List.map_cons, List.map_nil]); first | done | rfl | (simp only [List.length_drop, List.length_take]; rfl)) ?_
                    with_reducible refine (stopcockref23_within.calls ((rd_T58 l0 x3_1).f0) 1099511627776 true _ A5.out).mono ?_
                    rintro e w' ⟨rfl, ⟨nd, rfl⟩⟩
                    refine ⟨_, rfl, ?_⟩; refine hK.out _ _ ⟨((HB.out.cell (World.block_lt_of_cell? w _ hw132_0)).trans hw132_0), ((HB.out.cell (World.block_lt_of_cell? w _ hw132_1)).trans hw132_1), ((HB.out.cell (World.block_lt_of_cell? w _ hw134_0)).trans hw134_0), ((HB.out.cell (World.block_lt_of_cell? w _ hw134_1)).trans hw134_1), ((HB.out.cell (World.block_lt_of_cell? w _ hw136_0)).trans hw136_0), ((HB.out.cell (World.block_lt_of_cell? w _ hw136_1)).trans hw136_1), ((HB.out.cell (World.block_lt_of_cell? w _ hw137_0)).trans hw137_0), ((HB.out.cell (World.block_lt_of_cell? w _ hw137_1)).trans hw137_1), ((HB.out.cell (World.block_lt_of_cell? w _ hw138_0)).trans hw138_0), ((HB.out.cell (World.block_lt_of_cell? w _ hw138_1)).trans hw138_1), ((HB.out.cell (World.block_lt_of_cell? w _ hw139_0)).trans hw139_0), ((HB.out.cell (World.block_lt_of_cell? w _ hw139_1)).trans hw139_1)⟩ (fun hHeld => ?_); clear hK K; refine norm_ (a' := ?_) ?_ ?_; rotate_left
                    · show Act.put _ (some 18) _ = _
                      simp only [Act.put, q1_, q2_, q3_, i64_w, i32_w]
                      rfl
                    refine pu_ (i := 6) (N := some 19) (v := ?_) (a' := ?_) (bs 48 127) rfl rfl HT_.out (by kernel_rfl) (fun _ _ _ h => h) ⟨by rfl, ?_⟩ ?_ ?_; rotate_left; (intro w'; go_simp; with_reducible rfl); rotate_left; (simp only [Act.put, q1_, q2_, q3_, i64_w, i32_w]; rfl); refine pu_ (i := 7) (N := some 20) (v := ?_) (a' := ?_) (bs 48 255) rfl rfl HT_.out (by kernel_rfl) (fun _ _ _ h => h) ⟨by rfl, ?_⟩ ?_ ?_; rotate_left; (intro w'; go_simp; with_reducible rfl); rotate_left; (simp only [Act.put, q1_, q2_, q3_, i64_w, i32_w]; rfl); refine pu_ (i := 8) (N := some 21) (v := ?_) (a' := ?_) (bs 48 511) rfl rfl HT_.out (by kernel_rfl) (fun _ _ _ h => h) ⟨by rfl, ?_⟩ ?_ ?_; rotate_left; (intro w'; go_simp; with_reducible rfl); rotate_left; (simp only [Act.put, q1_, q2_, q3_, i64_w, i32_w]; rfl); refine pu_ (i := 9) (N := some 22) (v := ?_) (a' := ?_) (bs 48 1023) rfl rfl HT_.out (by kernel_rfl) (fun _ _ _ h => h) ⟨by rfl, ?_⟩ ?_ ?_; rotate_left; (intro w'; go_simp; with_reducible rfl); rotate_left; (simp only [Act.put, q1_, q2_, q3_, i64_w, i32_w]; rfl); refine pu_ (i := 10) (N := some 23) (v := ?_) (a' := ?_) (bs 48 2047) rfl rfl HT_.out (by kernel_rfl) (fun _ _ _ h => h) ⟨by rfl, ?_⟩ ?_ ?_; rotate_left; (intro w'; go_simp; with_reducible rfl); rotate_left; (simp only [Act.put, q1_, q2_, q3_, i64_w, i32_w]; rfl); refine pu_ (i := 11) (N := some 24) (v := ?_) (a' := ?_) (bs 48 4095) rfl rfl HT_.out (by kernel_rfl) (fun _ _ _ h => h) ⟨by rfl, ?_⟩ ?_ ?_; rotate_left; (intro w'; go_simp; with_reducible rfl); rotate_left; (simp only [Act.put, q1_, q2_, q3_, i64_w, i32_w]; rfl)
                    refine take_ (i := 12) (N := some 25) (v := ?_) (a' := ?_) (bs 48 8191) rfl rfl (take_ofW HT_.out HW_.out (by kernel_rfl)) (fun _ _ _ h => h) (Or.inl ⟨by rfl, ?_⟩) hHeld ?_ ?_; rotate_left
                    · rintro w' ⟨s0, s1, s2, s3, s4, s5, s6, s7, s8, s9, s10, s11⟩
                      go_simp
                      with_reducible rfl
                    rotate_left
                    · simp only [Act.put, q1_, q2_, q3_, i64_w, i32_w]
                      rfl
                    refine one_ (i := 13) (N := some 26) (bs 48 16383) rfl rfl (one_of HT_.out (by kernel_rfl)) (by decide) (fun K hK => ?_); refine goes_ Try.func25 (by kernel_rfl) rfl #[.int .i64 ((rd_T58 l0 x3_1).f1), .int .i64 1073741824] (by rfl) rfl rfl (by (try simp only [List.map_toArray, List.map_cons, List.map_nil]); first | done | rfl | (simp only [List.length_drop, List.length_take]; rfl)) ?_
                    with_reducible refine (stopcockref23_within.calls ((rd_T58 l0 x3_1).f1) 1073741824 true _ A7.out).mono ?_
                    rintro e w' ⟨rfl, ⟨nd, rfl⟩⟩
                    refine ⟨_, rfl, ?_⟩; refine hK.out _ _ ⟨((HB.out.cell (World.block_lt_of_cell? w _ hw132_0)).trans hw132_0), ((HB.out.cell (World.block_lt_of_cell? w _ hw132_1)).trans hw132_1), ((HB.out.cell (World.block_lt_of_cell? w _ hw134_0)).trans hw134_0), ((HB.out.cell (World.block_lt_of_cell? w _ hw134_1)).trans hw134_1), ((HB.out.cell (World.block_lt_of_cell? w _ hw136_0)).trans hw136_0), ((HB.out.cell (World.block_lt_of_cell? w _ hw136_1)).trans hw136_1), ((HB.out.cell (World.block_lt_of_cell? w _ hw137_0)).trans hw137_0), ((HB.out.cell (World.block_lt_of_cell? w _ hw137_1)).trans hw137_1), ((HB.out.cell (World.block_lt_of_cell? w _ hw138_0)).trans hw138_0), ((HB.out.cell (World.block_lt_of_cell? w _ hw138_1)).trans hw138_1), ((HB.out.cell (World.block_lt_of_cell? w _ hw139_0)).trans hw139_0), ((HB.out.cell (World.block_lt_of_cell? w _ hw139_1)).trans hw139_1)⟩ (fun hHeld => ?_); clear hK K; refine norm_ (a' := ?_) ?_ ?_; rotate_left
                    · show Act.put _ (some 26) _ = _
                      simp only [Act.put, q1_, q2_, q3_, i64_w, i32_w]
                      rfl
                    refine pu_ (i := 14) (N := some 27) (v := ?_) (a' := ?_) (bs 48 32767) rfl rfl HT_.out (by kernel_rfl) (fun _ _ _ h => h) ⟨by rfl, ?_⟩ ?_ ?_; rotate_left; (intro w'; go_simp; with_reducible rfl); rotate_left; (simp only [Act.put, q1_, q2_, q3_, i64_w, i32_w]; rfl); refine pu_ (i := 15) (N := some 28) (v := ?_) (a' := ?_) (bs 48 65535) rfl rfl HT_.out (by kernel_rfl) (fun _ _ _ h => h) ⟨by rfl, ?_⟩ ?_ ?_; rotate_left; (intro w'; go_simp; with_reducible rfl); rotate_left; (simp only [Act.put, q1_, q2_, q3_, i64_w, i32_w]; rfl); refine pu_ (i := 16) (N := some 29) (v := ?_) (a' := ?_) (bs 48 131071) rfl rfl HT_.out (by kernel_rfl) (fun _ _ _ h => h) ⟨by rfl, ?_⟩ ?_ ?_; rotate_left; (intro w'; go_simp; with_reducible rfl); rotate_left; (simp only [Act.put, q1_, q2_, q3_, i64_w, i32_w]; rfl); refine pu_ (i := 17) (N := some 30) (v := ?_) (a' := ?_) (bs 48 262143) rfl rfl HT_.out (by kernel_rfl) (fun _ _ _ h => h) ⟨by rfl, ?_⟩ ?_ ?_; rotate_left; (intro w'; go_simp; with_reducible rfl); rotate_left; (simp only [Act.put, q1_, q2_, q3_, i64_w, i32_w]; rfl); refine pu_ (i := 18) (N := some 31) (v := ?_) (a' := ?_) (bs 48 524287) rfl rfl HT_.out (by kernel_rfl) (fun _ _ _ h => h) ⟨by rfl, ?_⟩ ?_ ?_; rotate_left; (intro w'; go_simp; with_reducible rfl); rotate_left; (simp only [Act.put, q1_, q2_, q3_, i64_w, i32_w]; rfl); refine pu_ (i := 19) (N := some 32) (v := ?_) (a' := ?_) (bs 48 1048575) rfl rfl HT_.out (by kernel_rfl) (fun _ _ _ h => h) ⟨by rfl, ?_⟩ ?_ ?_; rotate_left; (intro w'; go_simp; with_reducible rfl); rotate_left; (simp only [Act.put, q1_, q2_, q3_, i64_w, i32_w]; rfl)
                    refine pu_ (i := 20) (N := some 33) (v := ?_) (a' := ?_) (bs 48 2097151) rfl rfl HT_.out (by kernel_rfl) (fun _ _ _ h => h) ⟨by rfl, ?_⟩ ?_ ?_; rotate_left; (intro w'; go_simp; with_reducible rfl); rotate_left; (simp only [Act.put, q1_, q2_, q3_, i64_w, i32_w]; rfl); refine pu_ (i := 21) (N := some 34) (v := ?_) (a' := ?_) (bs 48 4194303) rfl rfl HT_.out (by kernel_rfl) (fun _ _ _ h => h) ⟨by rfl, ?_⟩ ?_ ?_; rotate_left; (intro w'; go_simp; with_reducible rfl); rotate_left; (simp only [Act.put, q1_, q2_, q3_, i64_w, i32_w]; rfl); refine pu_ (i := 22) (N := some 35) (v := ?_) (a' := ?_) (bs 48 8388607) rfl rfl HT_.out (by kernel_rfl) (fun _ _ _ h => h) ⟨by rfl, ?_⟩ ?_ ?_; rotate_left; (intro w'; go_simp; with_reducible rfl); rotate_left; (simp only [Act.put, q1_, q2_, q3_, i64_w, i32_w]; rfl); refine pu_ (i := 23) (N := some 36) (v := ?_) (a' := ?_) (bs 48 16777215) rfl rfl HT_.out (by kernel_rfl) (fun _ _ _ h => h) ⟨by rfl, ?_⟩ ?_ ?_; rotate_left; (intro w'; go_simp; with_reducible rfl); rotate_left; (simp only [Act.put, q1_, q2_, q3_, i64_w, i32_w]; rfl); refine pu_ (i := 25) (N := some 38) (v := ?_) (a' := ?_) (bs 48 50331647) rfl rfl HT_.out (by kernel_rfl) (fun _ _ _ h => h) ⟨by rfl, ?_⟩ ?_ ?_; rotate_left; (intro w'; go_simp; with_reducible rfl); rotate_left; (simp only [Act.put, q1_, q2_, q3_, i64_w, i32_w]; rfl); refine pu_ (i := 26) (N := some 39) (v := ?_) (a' := ?_) (bs 48 117440511) rfl rfl HT_.out (by kernel_rfl) (fun _ _ _ h => h) ⟨by rfl, ?_⟩ ?_ ?_; rotate_left; (intro w'; go_simp; with_reducible rfl); rotate_left; (simp only [Act.put, q1_, q2_, q3_, i64_w, i32_w]; rfl)
                    refine pu_ (i := 27) (N := some 40) (v := ?_) (a' := ?_) (bs 48 251658239) rfl rfl HT_.out (by kernel_rfl) (fun _ _ _ h => h) ⟨by rfl, ?_⟩ ?_ ?_; rotate_left; (intro w'; go_simp; with_reducible rfl); rotate_left; (simp only [Act.put, q1_, q2_, q3_, i64_w, i32_w]; rfl); refine pu_ (i := 28) (N := some 41) (v := ?_) (a' := ?_) (bs 48 520093695) rfl rfl HT_.out (by kernel_rfl) (fun _ _ _ h => h) ⟨by rfl, ?_⟩ ?_ ?_; rotate_left; (intro w'; go_simp; with_reducible rfl); rotate_left; (simp only [Act.put, q1_, q2_, q3_, i64_w, i32_w]; rfl); refine pu_ (i := 29) (N := some 42) (v := ?_) (a' := ?_) (bs 48 1056964607) rfl rfl HT_.out (by kernel_rfl) (fun _ _ _ h => h) ⟨by rfl, ?_⟩ ?_ ?_; rotate_left; (intro w'; go_simp; with_reducible rfl); rotate_left; (simp only [Act.put, q1_, q2_, q3_, i64_w, i32_w]; rfl); refine take_ (i := 24) (N := some 37) (v := ?_) (a' := ?_) (bs 48 1073741823) rfl rfl (take_ofW HT_.out HW_.out (by kernel_rfl)) (fun _ _ _ h => h) (Or.inl ⟨by rfl, ?_⟩) hHeld ?_ ?_; rotate_left
                    · rintro w' ⟨s0, s1, s2, s3, s4, s5, s6, s7, s8, s9, s10, s11⟩
                      go_simp
                      with_reducible rfl
                    rotate_left
                    · simp only [Act.put, q1_, q2_, q3_, i64_w, i32_w]
                      rfl
                    refine take_ (i := 30) (N := some 43) (v := ?_) (a' := ?_) (bs 48 2147483647) rfl rfl (take_ofW HT_.out HW_.out (by kernel_rfl)) (fun _ _ _ h => h) (Or.inl ⟨by rfl, ?_⟩) hHeld ?_ ?_; rotate_left
                    · rintro w' ⟨s0, s1, s2, s3, s4, s5, s6, s7, s8, s9, s10, s11⟩
                      go_simp
                      with_reducible rfl
                    rotate_left
                    · simp only [Act.put, q1_, q2_, q3_, i64_w, i32_w]
                      rfl
                    refine pu_ (i := 31) (N := some 44) (v := ?_) (a' := ?_) (bs 48 4294967295) rfl rfl HT_.out (by kernel_rfl) (fun _ _ _ h => h) ⟨by rfl, ?_⟩ ?_ ?_; rotate_left; (intro w'; go_simp; with_reducible rfl); rotate_left; (simp only [Act.put, q1_, q2_, q3_, i64_w, i32_w]; rfl); refine pu_ (i := 32) (N := some 45) (v := ?_) (a' := ?_) (bs 48 8589934591) rfl rfl HT_.out (by kernel_rfl) (fun _ _ _ h => h) ⟨by rfl, ?_⟩ ?_ ?_; rotate_left; (intro w'; go_simp; with_reducible rfl); rotate_left; (simp only [Act.put, q1_, q2_, q3_, i64_w, i32_w]; rfl); refine pu_ (i := 33) (N := some 46) (v := ?_) (a' := ?_) (bs 48 17179869183) rfl rfl HT_.out (by kernel_rfl) (fun _ _ _ h => h) ⟨by rfl, ?_⟩ ?_ ?_; rotate_left; (intro w'; go_simp; with_reducible rfl); rotate_left; (simp only [Act.put, q1_, q2_, q3_, i64_w, i32_w]; rfl); refine pu_ (i := 34) (N := some 47) (v := ?_) (a' := ?_) (bs 48 34359738367) rfl rfl HT_.out (by kernel_rfl) (fun _ _ _ h => h) ⟨by rfl, ?_⟩ ?_ ?_; rotate_left; (intro w'; go_simp; with_reducible rfl); rotate_left; (simp only [Act.put, q1_, q2_, q3_, i64_w, i32_w]; rfl); refine pu_ (i := 35) (N := some 48) (v := ?_) (a' := ?_) (bs 48 68719476735) rfl rfl HT_.out (by kernel_rfl) (fun _ _ _ h => h) ⟨by rfl, ?_⟩ ?_ ?_; rotate_left; (intro w'; go_simp; with_reducible rfl); rotate_left; (simp only [Act.put, q1_, q2_, q3_, i64_w, i32_w]; rfl); refine pu_ (i := 36) (N := some 49) (v := ?_) (a' := ?_) (bs 48 137438953471) rfl rfl HT_.out (by kernel_rfl) (fun _ _ _ h => h) ⟨by rfl, ?_⟩ ?_ ?_; rotate_left; (intro w'; go_simp; with_reducible rfl); rotate_left; (simp only [Act.put, q1_, q2_, q3_, i64_w, i32_w]; rfl)
                    refine pu_ (i := 38) (N := some 51) (v := ?_) (a' := ?_) (bs 48 412316860415) rfl rfl HT_.out (by kernel_rfl) (fun _ _ _ h => h) ⟨by rfl, ?_⟩ ?_ ?_; rotate_left; (intro w'; go_simp; with_reducible rfl); rotate_left; (simp only [Act.put, q1_, q2_, q3_, i64_w, i32_w]; rfl); refine pu_ (i := 39) (N := some 52) (v := ?_) (a' := ?_) (bs 48 962072674303) rfl rfl HT_.out (by kernel_rfl) (fun _ _ _ h => h) ⟨by rfl, ?_⟩ ?_ ?_; rotate_left; (intro w'; go_simp; with_reducible rfl); rotate_left; (simp only [Act.put, q1_, q2_, q3_, i64_w, i32_w]; rfl); refine pu_ (i := 40) (N := some 53) (v := ?_) (a' := ?_) (bs 48 2061584302079) rfl rfl HT_.out (by kernel_rfl) (fun _ _ _ h => h) ⟨by rfl, ?_⟩ ?_ ?_; rotate_left; (intro w'; go_simp; with_reducible rfl); rotate_left; (simp only [Act.put, q1_, q2_, q3_, i64_w, i32_w]; rfl); refine pu_ (i := 41) (N := some 54) (v := ?_) (a' := ?_) (bs 48 4260607557631) rfl rfl HT_.out (by kernel_rfl) (fun _ _ _ h => h) ⟨by rfl, ?_⟩ ?_ ?_; rotate_left; (intro w'; go_simp; with_reducible rfl); rotate_left; (simp only [Act.put, q1_, q2_, q3_, i64_w, i32_w]; rfl); refine pu_ (i := 42) (N := some 55) (v := ?_) (a' := ?_) (bs 48 8658654068735) rfl rfl HT_.out (by kernel_rfl) (fun _ _ _ h => h) ⟨by rfl, ?_⟩ ?_ ?_; rotate_left; (intro w'; go_simp; with_reducible rfl); rotate_left; (simp only [Act.put, q1_, q2_, q3_, i64_w, i32_w]; rfl); refine take_ (i := 37) (N := some 50) (v := ?_) (a' := ?_) (bs 48 8796093022207) rfl rfl (take_ofW HT_.out HW_.out (by kernel_rfl)) (fun _ _ _ h => h) (Or.inl ⟨by rfl, ?_⟩) hHeld ?_ ?_
                    rotate_left
                    · rintro w' ⟨s0, s1, s2, s3, s4, s5, s6, s7, s8, s9, s10, s11⟩
                      go_simp
                      with_reducible rfl
                    rotate_left
                    · simp only [Act.put, q1_, q2_, q3_, i64_w, i32_w]
                      rfl
                    refine take_ (i := 43) (N := some 56) (v := ?_) (a' := ?_) (bs 48 17592186044415) rfl rfl (take_ofW HT_.out HW_.out (by kernel_rfl)) (fun _ _ _ h => h) (Or.inl ⟨by rfl, ?_⟩) hHeld ?_ ?_; rotate_left
                    · rintro w' ⟨s0, s1, s2, s3, s4, s5, s6, s7, s8, s9, s10, s11⟩
                      go_simp
                      with_reducible rfl
                    rotate_left
                    · simp only [Act.put, q1_, q2_, q3_, i64_w, i32_w]
                      rfl
                    refine pu_ (i := 44) (N := some 57) (v := ?_) (a' := ?_) (bs 48 35184372088831) rfl rfl HT_.out (by kernel_rfl) (fun _ _ _ h => h) ⟨by rfl, ?_⟩ ?_ ?_; rotate_left; (intro w'; go_simp; with_reducible rfl); rotate_left; (simp only [Act.put, q1_, q2_, q3_, i64_w, i32_w]; rfl); refine pu_ (i := 45) (N := some 58) (v := ?_) (a' := ?_) (bs 48 70368744177663) rfl rfl HT_.out (by kernel_rfl) (fun _ _ _ h => h) ⟨by rfl, ?_⟩ ?_ ?_; rotate_left; (intro w'; go_simp; with_reducible rfl); rotate_left; (simp only [Act.put, q1_, q2_, q3_, i64_w, i32_w]; rfl); refine pu_ (i := 46) (N := some 59) (v := ?_) (a' := ?_) (bs 48 140737488355327) rfl rfl HT_.out (by kernel_rfl) (fun _ _ _ h => h) ⟨by rfl, ?_⟩ ?_ ?_; rotate_left; (intro w'; go_simp; with_reducible rfl); rotate_left; (simp only [Act.put, q1_, q2_, q3_, i64_w, i32_w]; rfl); refine pu_ (i := 47) (N := some 60) (v := ?_) (a' := ?_) (bs 48 281474976710655) rfl rfl HT_.out (by kernel_rfl) (fun _ _ _ h => h) ⟨by rfl, ?_⟩ ?_ ?_; rotate_left; (intro w'; go_simp; with_reducible rfl); rotate_left; (simp only [Act.put, q1_, q2_, q3_, i64_w, i32_w]; rfl); refine done_ (done_of HT_.out (by kernel_rfl)) ?_
                    try go_wp2
                    go_roundg k1
                    case measure => have := HK1.out; omega
                    case rel => exact ⟨(wrap64 (x3_1 + 1)), (by first | rfl | (simp; done) | (simp [*]; done)), H', ⟨by have := HK1.out; omega⟩, ⟨by exact bel0 HB.out⟩⟩
                  rw [if_neg c12] at H; exact absurd H (by simp)
                rw [if_neg c11] at H; exact absurd H (by simp)
              rw [if_neg c9] at H; have c9b0 : decide (0 < x3_1) = false := decide_eq_false c9; clear c9; have H' := Aside0.mk H; clear H
              try go_wp2
              have n0_ := Aside0.mk (below_drew1 HB.out); clear HB; have HB := n0_; clear n0_; have p132 : 0 ≤ (x3_1 : Int) := of_decide_eq_true (by first | (with_reducible assumption) | assumption); have q132 : x3_1 < (l0.length : Int) := of_decide_eq_true (by first | (with_reducible assumption) | assumption); obtain ⟨ad132, e132, hx132_0, hx132_1⟩ := at_T58 HR0.out x3_1 p132 q132; have hw132_1 := hx132_1; have hw132_0 := hx132_0
              cases e132
              replace hx132_0 := (HB.out.cell (World.block_lt_of_cell? w _ hx132_0)).trans hx132_0; replace hx132_1 := (HB.out.cell (World.block_lt_of_cell? w _ hx132_1)).trans hx132_1; replace p132 := eq_true p132; replace q132 := eq_true q132; have p134 : 0 ≤ (x3_1 : Int) := of_decide_eq_true (by first | (with_reducible assumption) | assumption); have q134 : x3_1 < (l0.length : Int) := of_decide_eq_true (by first | (with_reducible assumption) | assumption); obtain ⟨ad134, e134, hx134_0, hx134_1⟩ := at_T58 HR0.out x3_1 p134 q134; have hw134_1 := hx134_1; have hw134_0 := hx134_0; obtain rfl : ad132 = ad134 := (by injection e134); replace hx134_0 := (HB.out.cell (World.block_lt_of_cell? w _ hx134_0)).trans hx134_0; replace hx134_1 := (HB.out.cell (World.block_lt_of_cell? w _ hx134_1)).trans hx134_1; replace p134 := eq_true p134; replace q134 := eq_true q134; refine start_ (n := 48) (S := fun w' => w'.cell? (ad132.add ((x3_1).toNat * 2)) = some (.int .i64 ((rd_T58 l0 x3_1).f0)) ∧ w'.cell? ⟨(ad132.add ((x3_1).toNat * 2)).block, (ad132.add ((x3_1).toNat * 2)).off + 1, none⟩ = some (.int .i64 ((rd_T58 l0 x3_1).f1)) ∧ w'.cell? (ad132.add ((x3_1).toNat * 2)) = some (.int .i64 ((rd_T58 l0 x3_1).f0)) ∧ w'.cell? ⟨(ad132.add ((x3_1).toNat * 2)).block, (ad132.add ((x3_1).toNat * 2)).off + 1, none⟩ = some (.int .i64 ((rd_T58 l0 x3_1).f1))) (ds := []) (bs 48 0) (by kernel_rfl) rfl rfl ⟨((HB.out.cell (World.block_lt_of_cell? w _ hw132_0)).trans hw132_0), ((HB.out.cell (World.block_lt_of_cell? w _ hw132_1)).trans hw132_1), ((HB.out.cell (World.block_lt_of_cell? w _ hw134_0)).trans hw134_0), ((HB.out.cell (World.block_lt_of_cell? w _ hw134_1)).trans hw134_1)⟩ (fun hHeld => ?_); refine with_tabW stopcockref23_list.tab6 stopcockref23_list.bits6 (fun HT_ HW_ => ?_)
              generalize wr.drew = w18 at HB hx132_0 hx132_1 hx134_0 hx134_1 hHeld ⊢; refine pu_ (i := 0) (N := some 13) (v := ?_) (a' := ?_) (bs 48 1) rfl rfl HT_.out (by kernel_rfl) (fun _ _ _ h => h) ⟨by rfl, ?_⟩ ?_ ?_; rotate_left; (intro w'; go_simp; with_reducible rfl); rotate_left; (simp only [Act.put, q1_, q2_, q3_, i64_w, i32_w]; rfl); refine pu_ (i := 1) (N := some 14) (v := ?_) (a' := ?_) (bs 48 3) rfl rfl HT_.out (by kernel_rfl) (fun _ _ _ h => h) ⟨by rfl, ?_⟩ ?_ ?_; rotate_left; (intro w'; go_simp; with_reducible rfl); rotate_left; (simp only [Act.put, q1_, q2_, q3_, i64_w, i32_w]; rfl); refine pu_ (i := 2) (N := some 15) (v := ?_) (a' := ?_) (bs 48 7) rfl rfl HT_.out (by kernel_rfl) (fun _ _ _ h => h) ⟨by rfl, ?_⟩ ?_ ?_; rotate_left; (intro w'; go_simp; with_reducible rfl); rotate_left; (simp only [Act.put, q1_, q2_, q3_, i64_w, i32_w]; rfl); refine pu_ (i := 3) (N := some 16) (v := ?_) (a' := ?_) (bs 48 15) rfl rfl HT_.out (by kernel_rfl) (fun _ _ _ h => h) ⟨by rfl, ?_⟩ ?_ ?_; rotate_left; (intro w'; go_simp; with_reducible rfl); rotate_left; (simp only [Act.put, q1_, q2_, q3_, i64_w, i32_w]; rfl); refine take_ (i := 4) (N := some 17) (v := ?_) (a' := ?_) (bs 48 31) rfl rfl (take_ofW HT_.out HW_.out (by kernel_rfl)) (fun _ _ _ h => h) (Or.inl ⟨by rfl, ?_⟩) hHeld ?_ ?_; rotate_left
              · rintro w' ⟨s0, s1, s2, s3⟩
                go_simp
                with_reducible rfl
              rotate_left
              · simp only [Act.put, q1_, q2_, q3_, i64_w, i32_w]
                rfl
              refine one_ (i := 5) (N := some 18) (bs 48 63) rfl rfl (one_of HT_.out (by kernel_rfl)) (by decide) (fun K hK => ?_); refine goes_ Try.func25 (by kernel_rfl) rfl #[.int .i64 ((rd_T58 l0 x3_1).f0), .int .i64 1099511627776] (by rfl) rfl rfl (by (try simp only [List.map_toArray, List.map_cons, List.map_nil]); first | done | rfl | (simp only [List.length_drop, List.length_take]; rfl)) ?_
              with_reducible refine (stopcockref23_within.calls ((rd_T58 l0 x3_1).f0) 1099511627776 true _ A5.out).mono ?_
              rintro e w' ⟨rfl, ⟨nd, rfl⟩⟩
              refine ⟨_, rfl, ?_⟩; refine hK.out _ _ ⟨((HB.out.cell (World.block_lt_of_cell? w _ hw132_0)).trans hw132_0), ((HB.out.cell (World.block_lt_of_cell? w _ hw132_1)).trans hw132_1), ((HB.out.cell (World.block_lt_of_cell? w _ hw134_0)).trans hw134_0), ((HB.out.cell (World.block_lt_of_cell? w _ hw134_1)).trans hw134_1)⟩ (fun hHeld => ?_); clear hK K; refine norm_ (a' := ?_) ?_ ?_; rotate_left
              · show Act.put _ (some 18) _ = _
                simp only [Act.put, q1_, q2_, q3_, i64_w, i32_w]
                rfl
              refine pu_ (i := 6) (N := some 19) (v := ?_) (a' := ?_) (bs 48 127) rfl rfl HT_.out (by kernel_rfl) (fun _ _ _ h => h) ⟨by rfl, ?_⟩ ?_ ?_; rotate_left; (intro w'; go_simp; with_reducible rfl); rotate_left; (simp only [Act.put, q1_, q2_, q3_, i64_w, i32_w]; rfl); refine pu_ (i := 7) (N := some 20) (v := ?_) (a' := ?_) (bs 48 255) rfl rfl HT_.out (by kernel_rfl) (fun _ _ _ h => h) ⟨by rfl, ?_⟩ ?_ ?_; rotate_left; (intro w'; go_simp; with_reducible rfl); rotate_left; (simp only [Act.put, q1_, q2_, q3_, i64_w, i32_w]; rfl); refine pu_ (i := 8) (N := some 21) (v := ?_) (a' := ?_) (bs 48 511) rfl rfl HT_.out (by kernel_rfl) (fun _ _ _ h => h) ⟨by rfl, ?_⟩ ?_ ?_; rotate_left; (intro w'; go_simp; with_reducible rfl); rotate_left; (simp only [Act.put, q1_, q2_, q3_, i64_w, i32_w]; rfl); refine pu_ (i := 9) (N := some 22) (v := ?_) (a' := ?_) (bs 48 1023) rfl rfl HT_.out (by kernel_rfl) (fun _ _ _ h => h) ⟨by rfl, ?_⟩ ?_ ?_; rotate_left; (intro w'; go_simp; with_reducible rfl); rotate_left; (simp only [Act.put, q1_, q2_, q3_, i64_w, i32_w]; rfl); refine pu_ (i := 10) (N := some 23) (v := ?_) (a' := ?_) (bs 48 2047) rfl rfl HT_.out (by kernel_rfl) (fun _ _ _ h => h) ⟨by rfl, ?_⟩ ?_ ?_; rotate_left; (intro w'; go_simp; with_reducible rfl); rotate_left; (simp only [Act.put, q1_, q2_, q3_, i64_w, i32_w]; rfl); refine pu_ (i := 11) (N := some 24) (v := ?_) (a' := ?_) (bs 48 4095) rfl rfl HT_.out (by kernel_rfl) (fun _ _ _ h => h) ⟨by rfl, ?_⟩ ?_ ?_; rotate_left; (intro w'; go_simp; with_reducible rfl); rotate_left; (simp only [Act.put, q1_, q2_, q3_, i64_w, i32_w]; rfl)
              refine take_ (i := 12) (N := some 25) (v := ?_) (a' := ?_) (bs 48 8191) rfl rfl (take_ofW HT_.out HW_.out (by kernel_rfl)) (fun _ _ _ h => h) (Or.inl ⟨by rfl, ?_⟩) hHeld ?_ ?_; rotate_left
              · rintro w' ⟨s0, s1, s2, s3⟩
                go_simp
                with_reducible rfl
              rotate_left
              · simp only [Act.put, q1_, q2_, q3_, i64_w, i32_w]
                rfl
              refine one_ (i := 13) (N := some 26) (bs 48 16383) rfl rfl (one_of HT_.out (by kernel_rfl)) (by decide) (fun K hK => ?_); refine goes_ Try.func25 (by kernel_rfl) rfl #[.int .i64 ((rd_T58 l0 x3_1).f1), .int .i64 1073741824] (by rfl) rfl rfl (by (try simp only [List.map_toArray, List.map_cons, List.map_nil]); first | done | rfl | (simp only [List.length_drop, List.length_take]; rfl)) ?_
              with_reducible refine (stopcockref23_within.calls ((rd_T58 l0 x3_1).f1) 1073741824 true _ A7.out).mono ?_
              rintro e w' ⟨rfl, ⟨nd, rfl⟩⟩
              refine ⟨_, rfl, ?_⟩; refine hK.out _ _ ⟨((HB.out.cell (World.block_lt_of_cell? w _ hw132_0)).trans hw132_0), ((HB.out.cell (World.block_lt_of_cell? w _ hw132_1)).trans hw132_1), ((HB.out.cell (World.block_lt_of_cell? w _ hw134_0)).trans hw134_0), ((HB.out.cell (World.block_lt_of_cell? w _ hw134_1)).trans hw134_1)⟩ (fun hHeld => ?_); clear hK K; refine norm_ (a' := ?_) ?_ ?_; rotate_left
              · show Act.put _ (some 26) _ = _
                simp only [Act.put, q1_, q2_, q3_, i64_w, i32_w]
                rfl
              refine pu_ (i := 14) (N := some 27) (v := ?_) (a' := ?_) (bs 48 32767) rfl rfl HT_.out (by kernel_rfl) (fun _ _ _ h => h) ⟨by rfl, ?_⟩ ?_ ?_; rotate_left; (intro w'; go_simp; with_reducible rfl); rotate_left; (simp only [Act.put, q1_, q2_, q3_, i64_w, i32_w]; rfl); refine pu_ (i := 15) (N := some 28) (v := ?_) (a' := ?_) (bs 48 65535) rfl rfl HT_.out (by kernel_rfl) (fun _ _ _ h => h) ⟨by rfl, ?_⟩ ?_ ?_; rotate_left; (intro w'; go_simp; with_reducible rfl); rotate_left; (simp only [Act.put, q1_, q2_, q3_, i64_w, i32_w]; rfl); refine pu_ (i := 16) (N := some 29) (v := ?_) (a' := ?_) (bs 48 131071) rfl rfl HT_.out (by kernel_rfl) (fun _ _ _ h => h) ⟨by rfl, ?_⟩ ?_ ?_; rotate_left; (intro w'; go_simp; with_reducible rfl); rotate_left; (simp only [Act.put, q1_, q2_, q3_, i64_w, i32_w]; rfl); refine pu_ (i := 17) (N := some 30) (v := ?_) (a' := ?_) (bs 48 262143) rfl rfl HT_.out (by kernel_rfl) (fun _ _ _ h => h) ⟨by rfl, ?_⟩ ?_ ?_; rotate_left; (intro w'; go_simp; with_reducible rfl); rotate_left; (simp only [Act.put, q1_, q2_, q3_, i64_w, i32_w]; rfl); refine pu_ (i := 18) (N := some 31) (v := ?_) (a' := ?_) (bs 48 524287) rfl rfl HT_.out (by kernel_rfl) (fun _ _ _ h => h) ⟨by rfl, ?_⟩ ?_ ?_; rotate_left; (intro w'; go_simp; with_reducible rfl); rotate_left; (simp only [Act.put, q1_, q2_, q3_, i64_w, i32_w]; rfl); refine pu_ (i := 19) (N := some 32) (v := ?_) (a' := ?_) (bs 48 1048575) rfl rfl HT_.out (by kernel_rfl) (fun _ _ _ h => h) ⟨by rfl, ?_⟩ ?_ ?_; rotate_left; (intro w'; go_simp; with_reducible rfl); rotate_left; (simp only [Act.put, q1_, q2_, q3_, i64_w, i32_w]; rfl)
              refine pure_ (i := 20) (N := some 33) (v := undef) (a' := ?_) (bs 48 2097151) rfl rfl (any_of HT_.out (by kernel_rfl)) (fun _ _ _ h => h) (Or.inr ⟨by rfl, rfl⟩) ?_ ?_; rotate_left
              · simp only [Act.put, q1_, q2_, q3_, i64_w, i32_w]
                rfl
              refine pure_ (i := 21) (N := some 34) (v := undef) (a' := ?_) (bs 48 4194303) rfl rfl (any_of HT_.out (by kernel_rfl)) (fun _ _ _ h => h) (Or.inr ⟨by rfl, rfl⟩) ?_ ?_; rotate_left
              · simp only [Act.put, q1_, q2_, q3_, i64_w, i32_w]
                rfl
              refine pure_ (i := 22) (N := some 35) (v := undef) (a' := ?_) (bs 48 8388607) rfl rfl (any_of HT_.out (by kernel_rfl)) (fun _ _ _ h => h) (Or.inr ⟨by rfl, rfl⟩) ?_ ?_; rotate_left
              · simp only [Act.put, q1_, q2_, q3_, i64_w, i32_w]
                rfl
              refine pure_ (i := 23) (N := some 36) (v := undef) (a' := ?_) (bs 48 16777215) rfl rfl (any_of HT_.out (by kernel_rfl)) (fun _ _ _ h => h) (Or.inr ⟨by rfl, rfl⟩) ?_ ?_; rotate_left
              · simp only [Act.put, q1_, q2_, q3_, i64_w, i32_w]
                rfl
              refine pure_ (i := 24) (N := some 37) (v := undef) (a' := ?_) (bs 48 33554431) rfl rfl (any_of HT_.out (by kernel_rfl)) (fun _ _ _ h => h) (Or.inr ⟨by rfl, rfl⟩) ?_ ?_; rotate_left
              · simp only [Act.put, q1_, q2_, q3_, i64_w, i32_w]
                rfl
              refine pure_ (i := 25) (N := some 38) (v := undef) (a' := ?_) (bs 48 67108863) rfl rfl (any_of HT_.out (by kernel_rfl)) (fun _ _ _ h => h) (Or.inr ⟨by rfl, rfl⟩) ?_ ?_; rotate_left
              · simp only [Act.put, q1_, q2_, q3_, i64_w, i32_w]
                rfl
              refine pure_ (i := 26) (N := some 39) (v := undef) (a' := ?_) (bs 48 134217727) rfl rfl (any_of HT_.out (by kernel_rfl)) (fun _ _ _ h => h) (Or.inr ⟨by rfl, rfl⟩) ?_ ?_; rotate_left
              · simp only [Act.put, q1_, q2_, q3_, i64_w, i32_w]
                rfl
              refine pure_ (i := 27) (N := some 40) (v := undef) (a' := ?_) (bs 48 268435455) rfl rfl (any_of HT_.out (by kernel_rfl)) (fun _ _ _ h => h) (Or.inr ⟨by rfl, rfl⟩) ?_ ?_; rotate_left
              · simp only [Act.put, q1_, q2_, q3_, i64_w, i32_w]
                rfl
              refine pure_ (i := 28) (N := some 41) (v := undef) (a' := ?_) (bs 48 536870911) rfl rfl (any_of HT_.out (by kernel_rfl)) (fun _ _ _ h => h) (Or.inr ⟨by rfl, rfl⟩) ?_ ?_; rotate_left
              · simp only [Act.put, q1_, q2_, q3_, i64_w, i32_w]
                rfl
              refine pure_ (i := 29) (N := some 42) (v := undef) (a' := ?_) (bs 48 1073741823) rfl rfl (any_of HT_.out (by kernel_rfl)) (fun _ _ _ h => h) (Or.inr ⟨by rfl, rfl⟩) ?_ ?_; rotate_left
              · simp only [Act.put, q1_, q2_, q3_, i64_w, i32_w]
                rfl
              refine pure_ (i := 30) (N := some 43) (v := undef) (a' := ?_) (bs 48 2147483647) rfl rfl (any_of HT_.out (by kernel_rfl)) (fun _ _ _ h => h) (Or.inr ⟨by rfl, rfl⟩) ?_ ?_; rotate_left
              · simp only [Act.put, q1_, q2_, q3_, i64_w, i32_w]
                rfl
              refine pure_ (i := 31) (N := some 44) (v := undef) (a' := ?_) (bs 48 4294967295) rfl rfl (any_of HT_.out (by kernel_rfl)) (fun _ _ _ h => h) (Or.inr ⟨by rfl, rfl⟩) ?_ ?_; rotate_left
              · simp only [Act.put, q1_, q2_, q3_, i64_w, i32_w]
                rfl
              refine pure_ (i := 32) (N := some 45) (v := undef) (a' := ?_) (bs 48 8589934591) rfl rfl (any_of HT_.out (by kernel_rfl)) (fun _ _ _ h => h) (Or.inr ⟨by rfl, rfl⟩) ?_ ?_; rotate_left
              · simp only [Act.put, q1_, q2_, q3_, i64_w, i32_w]
                rfl
              refine pure_ (i := 33) (N := some 46) (v := undef) (a' := ?_) (bs 48 17179869183) rfl rfl (any_of HT_.out (by kernel_rfl)) (fun _ _ _ h => h) (Or.inr ⟨by rfl, rfl⟩) ?_ ?_; rotate_left
              · simp only [Act.put, q1_, q2_, q3_, i64_w, i32_w]
                rfl
              refine pure_ (i := 34) (N := some 47) (v := undef) (a' := ?_) (bs 48 34359738367) rfl rfl (any_of HT_.out (by kernel_rfl)) (fun _ _ _ h => h) (Or.inr ⟨by rfl, rfl⟩) ?_ ?_; rotate_left
              · simp only [Act.put, q1_, q2_, q3_, i64_w, i32_w]
                rfl
              refine pure_ (i := 35) (N := some 48) (v := undef) (a' := ?_) (bs 48 68719476735) rfl rfl (any_of HT_.out (by kernel_rfl)) (fun _ _ _ h => h) (Or.inr ⟨by rfl, rfl⟩) ?_ ?_; rotate_left
              · simp only [Act.put, q1_, q2_, q3_, i64_w, i32_w]
                rfl
              refine pure_ (i := 36) (N := some 49) (v := undef) (a' := ?_) (bs 48 137438953471) rfl rfl (any_of HT_.out (by kernel_rfl)) (fun _ _ _ h => h) (Or.inr ⟨by rfl, rfl⟩) ?_ ?_; rotate_left
              · simp only [Act.put, q1_, q2_, q3_, i64_w, i32_w]
                rfl
              refine pure_ (i := 37) (N := some 50) (v := undef) (a' := ?_) (bs 48 274877906943) rfl rfl (any_of HT_.out (by kernel_rfl)) (fun _ _ _ h => h) (Or.inr ⟨by rfl, rfl⟩) ?_ ?_; rotate_left
              · simp only [Act.put, q1_, q2_, q3_, i64_w, i32_w]
                rfl
              refine pure_ (i := 38) (N := some 51) (v := undef) (a' := ?_) (bs 48 549755813887) rfl rfl (any_of HT_.out (by kernel_rfl)) (fun _ _ _ h => h) (Or.inr ⟨by rfl, rfl⟩) ?_ ?_; rotate_left
              · simp only [Act.put, q1_, q2_, q3_, i64_w, i32_w]
                rfl
              refine pure_ (i := 39) (N := some 52) (v := undef) (a' := ?_) (bs 48 1099511627775) rfl rfl (any_of HT_.out (by kernel_rfl)) (fun _ _ _ h => h) (Or.inr ⟨by rfl, rfl⟩) ?_ ?_; rotate_left
              · simp only [Act.put, q1_, q2_, q3_, i64_w, i32_w]
                rfl
              refine pure_ (i := 40) (N := some 53) (v := undef) (a' := ?_) (bs 48 2199023255551) rfl rfl (any_of HT_.out (by kernel_rfl)) (fun _ _ _ h => h) (Or.inr ⟨by rfl, rfl⟩) ?_ ?_; rotate_left
              · simp only [Act.put, q1_, q2_, q3_, i64_w, i32_w]
                rfl
              refine pure_ (i := 41) (N := some 54) (v := undef) (a' := ?_) (bs 48 4398046511103) rfl rfl (any_of HT_.out (by kernel_rfl)) (fun _ _ _ h => h) (Or.inr ⟨by rfl, rfl⟩) ?_ ?_; rotate_left
              · simp only [Act.put, q1_, q2_, q3_, i64_w, i32_w]
                rfl
              refine pure_ (i := 42) (N := some 55) (v := undef) (a' := ?_) (bs 48 8796093022207) rfl rfl (any_of HT_.out (by kernel_rfl)) (fun _ _ _ h => h) (Or.inr ⟨by rfl, rfl⟩) ?_ ?_; rotate_left
              · simp only [Act.put, q1_, q2_, q3_, i64_w, i32_w]
                rfl
              refine pure_ (i := 43) (N := some 56) (v := undef) (a' := ?_) (bs 48 17592186044415) rfl rfl (any_of HT_.out (by kernel_rfl)) (fun _ _ _ h => h) (Or.inr ⟨by rfl, rfl⟩) ?_ ?_; rotate_left
              · simp only [Act.put, q1_, q2_, q3_, i64_w, i32_w]
                rfl
              refine pure_ (i := 44) (N := some 57) (v := undef) (a' := ?_) (bs 48 35184372088831) rfl rfl (any_of HT_.out (by kernel_rfl)) (fun _ _ _ h => h) (Or.inr ⟨by rfl, rfl⟩) ?_ ?_; rotate_left
              · simp only [Act.put, q1_, q2_, q3_, i64_w, i32_w]
                rfl
              refine pure_ (i := 45) (N := some 58) (v := undef) (a' := ?_) (bs 48 70368744177663) rfl rfl (any_of HT_.out (by kernel_rfl)) (fun _ _ _ h => h) (Or.inr ⟨by rfl, rfl⟩) ?_ ?_; rotate_left
              · simp only [Act.put, q1_, q2_, q3_, i64_w, i32_w]
                rfl
              refine pu_ (i := 46) (N := some 59) (v := ?_) (a' := ?_) (bs 48 140737488355327) rfl rfl HT_.out (by kernel_rfl) (fun _ _ _ h => h) ⟨by rfl, ?_⟩ ?_ ?_; rotate_left; (intro w'; go_simp; with_reducible rfl); rotate_left; (simp only [Act.put, q1_, q2_, q3_, i64_w, i32_w]; rfl); refine pu_ (i := 47) (N := some 60) (v := ?_) (a' := ?_) (bs 48 281474976710655) rfl rfl HT_.out (by kernel_rfl) (fun _ _ _ h => h) ⟨by rfl, ?_⟩ ?_ ?_; rotate_left; (intro w'; go_simp; with_reducible rfl); rotate_left; (simp only [Act.put, q1_, q2_, q3_, i64_w, i32_w]; rfl); refine done_ (done_of HT_.out (by kernel_rfl)) ?_
              try go_wp2
              go_roundg k1
              case measure => have := HK1.out; omega
              case rel => exact ⟨(wrap64 (x3_1 + 1)), (by first | rfl | (simp; done) | (simp [*]; done)), H', ⟨by have := HK1.out; omega⟩, ⟨by exact bel0 HB.out⟩⟩
            replace c8 := Bool.eq_false_iff.mpr c8
            subst c8
            have H1 : (some false) = some r := by rw [if_neg (show ¬ (false = true) by decide)] at H; exact H
            clear H; have H := H1; clear H1; obtain rfl := Option.some.inj H
            try go_wp2
            have n0_ := Aside0.mk (below_drew1 HB.out); clear HB; have HB := n0_; clear n0_; have p132 : 0 ≤ (x3_1 : Int) := of_decide_eq_true (by first | (with_reducible assumption) | assumption); have q132 : x3_1 < (l0.length : Int) := of_decide_eq_true (by first | (with_reducible assumption) | assumption); obtain ⟨ad132, e132, hx132_0, hx132_1⟩ := at_T58 HR0.out x3_1 p132 q132; have hw132_1 := hx132_1; have hw132_0 := hx132_0
            cases e132
            replace hx132_0 := (HB.out.cell (World.block_lt_of_cell? w _ hx132_0)).trans hx132_0; replace hx132_1 := (HB.out.cell (World.block_lt_of_cell? w _ hx132_1)).trans hx132_1; replace p132 := eq_true p132; replace q132 := eq_true q132; have p134 : 0 ≤ (x3_1 : Int) := of_decide_eq_true (by first | (with_reducible assumption) | assumption); have q134 : x3_1 < (l0.length : Int) := of_decide_eq_true (by first | (with_reducible assumption) | assumption); obtain ⟨ad134, e134, hx134_0, hx134_1⟩ := at_T58 HR0.out x3_1 p134 q134; have hw134_1 := hx134_1; have hw134_0 := hx134_0; obtain rfl : ad132 = ad134 := (by injection e134); replace hx134_0 := (HB.out.cell (World.block_lt_of_cell? w _ hx134_0)).trans hx134_0; replace hx134_1 := (HB.out.cell (World.block_lt_of_cell? w _ hx134_1)).trans hx134_1; replace p134 := eq_true p134; replace q134 := eq_true q134; refine start_ (n := 48) (S := fun w' => w'.cell? (ad132.add ((x3_1).toNat * 2)) = some (.int .i64 ((rd_T58 l0 x3_1).f0)) ∧ w'.cell? ⟨(ad132.add ((x3_1).toNat * 2)).block, (ad132.add ((x3_1).toNat * 2)).off + 1, none⟩ = some (.int .i64 ((rd_T58 l0 x3_1).f1)) ∧ w'.cell? (ad132.add ((x3_1).toNat * 2)) = some (.int .i64 ((rd_T58 l0 x3_1).f0)) ∧ w'.cell? ⟨(ad132.add ((x3_1).toNat * 2)).block, (ad132.add ((x3_1).toNat * 2)).off + 1, none⟩ = some (.int .i64 ((rd_T58 l0 x3_1).f1))) (ds := []) (bs 48 0) (by kernel_rfl) rfl rfl ⟨((HB.out.cell (World.block_lt_of_cell? w _ hw132_0)).trans hw132_0), ((HB.out.cell (World.block_lt_of_cell? w _ hw132_1)).trans hw132_1), ((HB.out.cell (World.block_lt_of_cell? w _ hw134_0)).trans hw134_0), ((HB.out.cell (World.block_lt_of_cell? w _ hw134_1)).trans hw134_1)⟩ (fun hHeld => ?_); refine with_tabW stopcockref23_list.tab6 stopcockref23_list.bits6 (fun HT_ HW_ => ?_)
            generalize wr.drew = w19 at HB hx132_0 hx132_1 hx134_0 hx134_1 hHeld ⊢; refine pu_ (i := 0) (N := some 13) (v := ?_) (a' := ?_) (bs 48 1) rfl rfl HT_.out (by kernel_rfl) (fun _ _ _ h => h) ⟨by rfl, ?_⟩ ?_ ?_; rotate_left; (intro w'; go_simp; with_reducible rfl); rotate_left; (simp only [Act.put, q1_, q2_, q3_, i64_w, i32_w]; rfl); refine pu_ (i := 1) (N := some 14) (v := ?_) (a' := ?_) (bs 48 3) rfl rfl HT_.out (by kernel_rfl) (fun _ _ _ h => h) ⟨by rfl, ?_⟩ ?_ ?_; rotate_left; (intro w'; go_simp; with_reducible rfl); rotate_left; (simp only [Act.put, q1_, q2_, q3_, i64_w, i32_w]; rfl); refine pu_ (i := 2) (N := some 15) (v := ?_) (a' := ?_) (bs 48 7) rfl rfl HT_.out (by kernel_rfl) (fun _ _ _ h => h) ⟨by rfl, ?_⟩ ?_ ?_; rotate_left; (intro w'; go_simp; with_reducible rfl); rotate_left; (simp only [Act.put, q1_, q2_, q3_, i64_w, i32_w]; rfl); refine pu_ (i := 3) (N := some 16) (v := ?_) (a' := ?_) (bs 48 15) rfl rfl HT_.out (by kernel_rfl) (fun _ _ _ h => h) ⟨by rfl, ?_⟩ ?_ ?_; rotate_left; (intro w'; go_simp; with_reducible rfl); rotate_left; (simp only [Act.put, q1_, q2_, q3_, i64_w, i32_w]; rfl); refine take_ (i := 4) (N := some 17) (v := ?_) (a' := ?_) (bs 48 31) rfl rfl (take_ofW HT_.out HW_.out (by kernel_rfl)) (fun _ _ _ h => h) (Or.inl ⟨by rfl, ?_⟩) hHeld ?_ ?_; rotate_left
            · rintro w' ⟨s0, s1, s2, s3⟩
              go_simp
              with_reducible rfl
            rotate_left
            · simp only [Act.put, q1_, q2_, q3_, i64_w, i32_w]
              rfl
            refine one_ (i := 5) (N := some 18) (bs 48 63) rfl rfl (one_of HT_.out (by kernel_rfl)) (by decide) (fun K hK => ?_); refine goes_ Try.func25 (by kernel_rfl) rfl #[.int .i64 ((rd_T58 l0 x3_1).f0), .int .i64 1099511627776] (by rfl) rfl rfl (by (try simp only [List.map_toArray, List.map_cons, List.map_nil]); first | done | rfl | (simp only [List.length_drop, List.length_take]; rfl)) ?_
            with_reducible refine (stopcockref23_within.calls ((rd_T58 l0 x3_1).f0) 1099511627776 true _ A5.out).mono ?_
            rintro e w' ⟨rfl, ⟨nd, rfl⟩⟩
            refine ⟨_, rfl, ?_⟩; refine hK.out _ _ ⟨((HB.out.cell (World.block_lt_of_cell? w _ hw132_0)).trans hw132_0), ((HB.out.cell (World.block_lt_of_cell? w _ hw132_1)).trans hw132_1), ((HB.out.cell (World.block_lt_of_cell? w _ hw134_0)).trans hw134_0), ((HB.out.cell (World.block_lt_of_cell? w _ hw134_1)).trans hw134_1)⟩ (fun hHeld => ?_); clear hK K; refine norm_ (a' := ?_) ?_ ?_; rotate_left
            · show Act.put _ (some 18) _ = _
              simp only [Act.put, q1_, q2_, q3_, i64_w, i32_w]
              rfl
            refine pu_ (i := 6) (N := some 19) (v := ?_) (a' := ?_) (bs 48 127) rfl rfl HT_.out (by kernel_rfl) (fun _ _ _ h => h) ⟨by rfl, ?_⟩ ?_ ?_; rotate_left; (intro w'; go_simp; with_reducible rfl); rotate_left; (simp only [Act.put, q1_, q2_, q3_, i64_w, i32_w]; rfl); refine pu_ (i := 7) (N := some 20) (v := ?_) (a' := ?_) (bs 48 255) rfl rfl HT_.out (by kernel_rfl) (fun _ _ _ h => h) ⟨by rfl, ?_⟩ ?_ ?_; rotate_left; (intro w'; go_simp; with_reducible rfl); rotate_left; (simp only [Act.put, q1_, q2_, q3_, i64_w, i32_w]; rfl); refine pu_ (i := 8) (N := some 21) (v := ?_) (a' := ?_) (bs 48 511) rfl rfl HT_.out (by kernel_rfl) (fun _ _ _ h => h) ⟨by rfl, ?_⟩ ?_ ?_; rotate_left; (intro w'; go_simp; with_reducible rfl); rotate_left; (simp only [Act.put, q1_, q2_, q3_, i64_w, i32_w]; rfl); refine pu_ (i := 9) (N := some 22) (v := ?_) (a' := ?_) (bs 48 1023) rfl rfl HT_.out (by kernel_rfl) (fun _ _ _ h => h) ⟨by rfl, ?_⟩ ?_ ?_; rotate_left; (intro w'; go_simp; with_reducible rfl); rotate_left; (simp only [Act.put, q1_, q2_, q3_, i64_w, i32_w]; rfl); refine pu_ (i := 10) (N := some 23) (v := ?_) (a' := ?_) (bs 48 2047) rfl rfl HT_.out (by kernel_rfl) (fun _ _ _ h => h) ⟨by rfl, ?_⟩ ?_ ?_; rotate_left; (intro w'; go_simp; with_reducible rfl); rotate_left; (simp only [Act.put, q1_, q2_, q3_, i64_w, i32_w]; rfl); refine pu_ (i := 11) (N := some 24) (v := ?_) (a' := ?_) (bs 48 4095) rfl rfl HT_.out (by kernel_rfl) (fun _ _ _ h => h) ⟨by rfl, ?_⟩ ?_ ?_; rotate_left; (intro w'; go_simp; with_reducible rfl); rotate_left; (simp only [Act.put, q1_, q2_, q3_, i64_w, i32_w]; rfl)
            refine take_ (i := 12) (N := some 25) (v := ?_) (a' := ?_) (bs 48 8191) rfl rfl (take_ofW HT_.out HW_.out (by kernel_rfl)) (fun _ _ _ h => h) (Or.inl ⟨by rfl, ?_⟩) hHeld ?_ ?_; rotate_left
            · rintro w' ⟨s0, s1, s2, s3⟩
              go_simp
              with_reducible rfl
            rotate_left
            · simp only [Act.put, q1_, q2_, q3_, i64_w, i32_w]
              rfl
            refine one_ (i := 13) (N := some 26) (bs 48 16383) rfl rfl (one_of HT_.out (by kernel_rfl)) (by decide) (fun K hK => ?_); refine goes_ Try.func25 (by kernel_rfl) rfl #[.int .i64 ((rd_T58 l0 x3_1).f1), .int .i64 1073741824] (by rfl) rfl rfl (by (try simp only [List.map_toArray, List.map_cons, List.map_nil]); first | done | rfl | (simp only [List.length_drop, List.length_take]; rfl)) ?_
            with_reducible refine (stopcockref23_within.calls ((rd_T58 l0 x3_1).f1) 1073741824 false _ A7.out).mono ?_
            rintro e w' ⟨rfl, ⟨nd, rfl⟩⟩
            refine ⟨_, rfl, ?_⟩; refine hK.out _ _ ⟨((HB.out.cell (World.block_lt_of_cell? w _ hw132_0)).trans hw132_0), ((HB.out.cell (World.block_lt_of_cell? w _ hw132_1)).trans hw132_1), ((HB.out.cell (World.block_lt_of_cell? w _ hw134_0)).trans hw134_0), ((HB.out.cell (World.block_lt_of_cell? w _ hw134_1)).trans hw134_1)⟩ (fun hHeld => ?_); clear hK K; refine norm_ (a' := ?_) ?_ ?_; rotate_left
            · show Act.put _ (some 26) _ = _
              simp only [Act.put, q1_, q2_, q3_, i64_w, i32_w]
              rfl
            refine pu_ (i := 14) (N := some 27) (v := ?_) (a' := ?_) (bs 48 32767) rfl rfl HT_.out (by kernel_rfl) (fun _ _ _ h => h) ⟨by rfl, ?_⟩ ?_ ?_; rotate_left; (intro w'; go_simp; with_reducible rfl); rotate_left; (simp only [Act.put, q1_, q2_, q3_, i64_w, i32_w]; rfl); refine pu_ (i := 15) (N := some 28) (v := ?_) (a' := ?_) (bs 48 65535) rfl rfl HT_.out (by kernel_rfl) (fun _ _ _ h => h) ⟨by rfl, ?_⟩ ?_ ?_; rotate_left; (intro w'; go_simp; with_reducible rfl); rotate_left; (simp only [Act.put, q1_, q2_, q3_, i64_w, i32_w]; rfl); refine pu_ (i := 16) (N := some 29) (v := ?_) (a' := ?_) (bs 48 131071) rfl rfl HT_.out (by kernel_rfl) (fun _ _ _ h => h) ⟨by rfl, ?_⟩ ?_ ?_; rotate_left; (intro w'; go_simp; with_reducible rfl); rotate_left; (simp only [Act.put, q1_, q2_, q3_, i64_w, i32_w]; rfl); refine pure_ (i := 17) (N := some 30) (v := undef) (a' := ?_) (bs 48 262143) rfl rfl (any_of HT_.out (by kernel_rfl)) (fun _ _ _ h => h) (Or.inr ⟨by rfl, rfl⟩) ?_ ?_; rotate_left
            · simp only [Act.put, q1_, q2_, q3_, i64_w, i32_w]
              rfl
            refine pure_ (i := 18) (N := some 31) (v := undef) (a' := ?_) (bs 48 524287) rfl rfl (any_of HT_.out (by kernel_rfl)) (fun _ _ _ h => h) (Or.inr ⟨by rfl, rfl⟩) ?_ ?_; rotate_left
            · simp only [Act.put, q1_, q2_, q3_, i64_w, i32_w]
              rfl
            refine pure_ (i := 19) (N := some 32) (v := undef) (a' := ?_) (bs 48 1048575) rfl rfl (any_of HT_.out (by kernel_rfl)) (fun _ _ _ h => h) (Or.inr ⟨by rfl, rfl⟩) ?_ ?_; rotate_left
            · simp only [Act.put, q1_, q2_, q3_, i64_w, i32_w]
              rfl
            refine pure_ (i := 20) (N := some 33) (v := undef) (a' := ?_) (bs 48 2097151) rfl rfl (any_of HT_.out (by kernel_rfl)) (fun _ _ _ h => h) (Or.inr ⟨by rfl, rfl⟩) ?_ ?_; rotate_left
            · simp only [Act.put, q1_, q2_, q3_, i64_w, i32_w]
              rfl
            refine pure_ (i := 21) (N := some 34) (v := undef) (a' := ?_) (bs 48 4194303) rfl rfl (any_of HT_.out (by kernel_rfl)) (fun _ _ _ h => h) (Or.inr ⟨by rfl, rfl⟩) ?_ ?_; rotate_left
            · simp only [Act.put, q1_, q2_, q3_, i64_w, i32_w]
              rfl
            refine pure_ (i := 22) (N := some 35) (v := undef) (a' := ?_) (bs 48 8388607) rfl rfl (any_of HT_.out (by kernel_rfl)) (fun _ _ _ h => h) (Or.inr ⟨by rfl, rfl⟩) ?_ ?_; rotate_left
            · simp only [Act.put, q1_, q2_, q3_, i64_w, i32_w]
              rfl
            refine pure_ (i := 23) (N := some 36) (v := undef) (a' := ?_) (bs 48 16777215) rfl rfl (any_of HT_.out (by kernel_rfl)) (fun _ _ _ h => h) (Or.inr ⟨by rfl, rfl⟩) ?_ ?_; rotate_left
            · simp only [Act.put, q1_, q2_, q3_, i64_w, i32_w]
              rfl
            refine pure_ (i := 24) (N := some 37) (v := undef) (a' := ?_) (bs 48 33554431) rfl rfl (any_of HT_.out (by kernel_rfl)) (fun _ _ _ h => h) (Or.inr ⟨by rfl, rfl⟩) ?_ ?_; rotate_left
            · simp only [Act.put, q1_, q2_, q3_, i64_w, i32_w]
              rfl
            refine pure_ (i := 25) (N := some 38) (v := undef) (a' := ?_) (bs 48 67108863) rfl rfl (any_of HT_.out (by kernel_rfl)) (fun _ _ _ h => h) (Or.inr ⟨by rfl, rfl⟩) ?_ ?_; rotate_left
            · simp only [Act.put, q1_, q2_, q3_, i64_w, i32_w]
              rfl
            refine pure_ (i := 26) (N := some 39) (v := undef) (a' := ?_) (bs 48 134217727) rfl rfl (any_of HT_.out (by kernel_rfl)) (fun _ _ _ h => h) (Or.inr ⟨by rfl, rfl⟩) ?_ ?_; rotate_left
            · simp only [Act.put, q1_, q2_, q3_, i64_w, i32_w]
              rfl
            refine pure_ (i := 27) (N := some 40) (v := undef) (a' := ?_) (bs 48 268435455) rfl rfl (any_of HT_.out (by kernel_rfl)) (fun _ _ _ h => h) (Or.inr ⟨by rfl, rfl⟩) ?_ ?_; rotate_left
            · simp only [Act.put, q1_, q2_, q3_, i64_w, i32_w]
              rfl
            refine pure_ (i := 28) (N := some 41) (v := undef) (a' := ?_) (bs 48 536870911) rfl rfl (any_of HT_.out (by kernel_rfl)) (fun _ _ _ h => h) (Or.inr ⟨by rfl, rfl⟩) ?_ ?_; rotate_left
            · simp only [Act.put, q1_, q2_, q3_, i64_w, i32_w]
              rfl
            refine pure_ (i := 29) (N := some 42) (v := undef) (a' := ?_) (bs 48 1073741823) rfl rfl (any_of HT_.out (by kernel_rfl)) (fun _ _ _ h => h) (Or.inr ⟨by rfl, rfl⟩) ?_ ?_; rotate_left
            · simp only [Act.put, q1_, q2_, q3_, i64_w, i32_w]
              rfl
            refine pure_ (i := 30) (N := some 43) (v := undef) (a' := ?_) (bs 48 2147483647) rfl rfl (any_of HT_.out (by kernel_rfl)) (fun _ _ _ h => h) (Or.inr ⟨by rfl, rfl⟩) ?_ ?_; rotate_left
            · simp only [Act.put, q1_, q2_, q3_, i64_w, i32_w]
              rfl
            refine pure_ (i := 31) (N := some 44) (v := undef) (a' := ?_) (bs 48 4294967295) rfl rfl (any_of HT_.out (by kernel_rfl)) (fun _ _ _ h => h) (Or.inr ⟨by rfl, rfl⟩) ?_ ?_; rotate_left
            · simp only [Act.put, q1_, q2_, q3_, i64_w, i32_w]
              rfl
            refine pure_ (i := 32) (N := some 45) (v := undef) (a' := ?_) (bs 48 8589934591) rfl rfl (any_of HT_.out (by kernel_rfl)) (fun _ _ _ h => h) (Or.inr ⟨by rfl, rfl⟩) ?_ ?_; rotate_left
            · simp only [Act.put, q1_, q2_, q3_, i64_w, i32_w]
              rfl
            refine pure_ (i := 33) (N := some 46) (v := undef) (a' := ?_) (bs 48 17179869183) rfl rfl (any_of HT_.out (by kernel_rfl)) (fun _ _ _ h => h) (Or.inr ⟨by rfl, rfl⟩) ?_ ?_; rotate_left
            · simp only [Act.put, q1_, q2_, q3_, i64_w, i32_w]
              rfl
            refine pure_ (i := 34) (N := some 47) (v := undef) (a' := ?_) (bs 48 34359738367) rfl rfl (any_of HT_.out (by kernel_rfl)) (fun _ _ _ h => h) (Or.inr ⟨by rfl, rfl⟩) ?_ ?_; rotate_left
            · simp only [Act.put, q1_, q2_, q3_, i64_w, i32_w]
              rfl
            refine pure_ (i := 35) (N := some 48) (v := undef) (a' := ?_) (bs 48 68719476735) rfl rfl (any_of HT_.out (by kernel_rfl)) (fun _ _ _ h => h) (Or.inr ⟨by rfl, rfl⟩) ?_ ?_; rotate_left
            · simp only [Act.put, q1_, q2_, q3_, i64_w, i32_w]
              rfl
            refine pure_ (i := 36) (N := some 49) (v := undef) (a' := ?_) (bs 48 137438953471) rfl rfl (any_of HT_.out (by kernel_rfl)) (fun _ _ _ h => h) (Or.inr ⟨by rfl, rfl⟩) ?_ ?_; rotate_left
            · simp only [Act.put, q1_, q2_, q3_, i64_w, i32_w]
              rfl
            refine pure_ (i := 37) (N := some 50) (v := undef) (a' := ?_) (bs 48 274877906943) rfl rfl (any_of HT_.out (by kernel_rfl)) (fun _ _ _ h => h) (Or.inr ⟨by rfl, rfl⟩) ?_ ?_; rotate_left
            · simp only [Act.put, q1_, q2_, q3_, i64_w, i32_w]
              rfl
            refine pure_ (i := 38) (N := some 51) (v := undef) (a' := ?_) (bs 48 549755813887) rfl rfl (any_of HT_.out (by kernel_rfl)) (fun _ _ _ h => h) (Or.inr ⟨by rfl, rfl⟩) ?_ ?_; rotate_left
            · simp only [Act.put, q1_, q2_, q3_, i64_w, i32_w]
              rfl
            refine pure_ (i := 39) (N := some 52) (v := undef) (a' := ?_) (bs 48 1099511627775) rfl rfl (any_of HT_.out (by kernel_rfl)) (fun _ _ _ h => h) (Or.inr ⟨by rfl, rfl⟩) ?_ ?_; rotate_left
            · simp only [Act.put, q1_, q2_, q3_, i64_w, i32_w]
              rfl
            refine pure_ (i := 40) (N := some 53) (v := undef) (a' := ?_) (bs 48 2199023255551) rfl rfl (any_of HT_.out (by kernel_rfl)) (fun _ _ _ h => h) (Or.inr ⟨by rfl, rfl⟩) ?_ ?_; rotate_left
            · simp only [Act.put, q1_, q2_, q3_, i64_w, i32_w]
              rfl
            refine pure_ (i := 41) (N := some 54) (v := undef) (a' := ?_) (bs 48 4398046511103) rfl rfl (any_of HT_.out (by kernel_rfl)) (fun _ _ _ h => h) (Or.inr ⟨by rfl, rfl⟩) ?_ ?_; rotate_left
            · simp only [Act.put, q1_, q2_, q3_, i64_w, i32_w]
              rfl
            refine pure_ (i := 42) (N := some 55) (v := undef) (a' := ?_) (bs 48 8796093022207) rfl rfl (any_of HT_.out (by kernel_rfl)) (fun _ _ _ h => h) (Or.inr ⟨by rfl, rfl⟩) ?_ ?_; rotate_left
            · simp only [Act.put, q1_, q2_, q3_, i64_w, i32_w]
              rfl
            refine pure_ (i := 43) (N := some 56) (v := undef) (a' := ?_) (bs 48 17592186044415) rfl rfl (any_of HT_.out (by kernel_rfl)) (fun _ _ _ h => h) (Or.inr ⟨by rfl, rfl⟩) ?_ ?_; rotate_left
            · simp only [Act.put, q1_, q2_, q3_, i64_w, i32_w]
              rfl
            refine pure_ (i := 44) (N := some 57) (v := undef) (a' := ?_) (bs 48 35184372088831) rfl rfl (any_of HT_.out (by kernel_rfl)) (fun _ _ _ h => h) (Or.inr ⟨by rfl, rfl⟩) ?_ ?_; rotate_left
            · simp only [Act.put, q1_, q2_, q3_, i64_w, i32_w]
              rfl
            refine pure_ (i := 45) (N := some 58) (v := undef) (a' := ?_) (bs 48 70368744177663) rfl rfl (any_of HT_.out (by kernel_rfl)) (fun _ _ _ h => h) (Or.inr ⟨by rfl, rfl⟩) ?_ ?_; rotate_left
            · simp only [Act.put, q1_, q2_, q3_, i64_w, i32_w]
              rfl
            refine pure_ (i := 46) (N := some 59) (v := undef) (a' := ?_) (bs 48 140737488355327) rfl rfl (any_of HT_.out (by kernel_rfl)) (fun _ _ _ h => h) (Or.inr ⟨by rfl, rfl⟩) ?_ ?_; rotate_left
            · simp only [Act.put, q1_, q2_, q3_, i64_w, i32_w]
              rfl
            refine pu_ (i := 47) (N := some 60) (v := ?_) (a' := ?_) (bs 48 281474976710655) rfl rfl HT_.out (by kernel_rfl) (fun _ _ _ h => h) ⟨by rfl, ?_⟩ ?_ ?_; rotate_left; (intro w'; go_simp; with_reducible rfl); rotate_left; (simp only [Act.put, q1_, q2_, q3_, i64_w, i32_w]; rfl); refine done_ (done_of HT_.out (by kernel_rfl)) ?_
            try go_wp2
            go_ret
            exact ⟨by first | rfl | (simp [errW_none, errW_some] <;> rfl) | (simp [*, errW_none, errW_some] <;> rfl), by exact bel0 HB.out⟩
          replace c6 := Bool.eq_false_iff.mpr c6
          subst c6
          have H1 : (some false) = some r := by rw [if_neg (show ¬ (false = true) by decide)] at H; exact H
          clear H; have H := H1; clear H1; obtain rfl := Option.some.inj H
          try go_wp2
          have n0_ := Aside0.mk (below_drew1 HB.out); clear HB; have HB := n0_; clear n0_; have p132 : 0 ≤ (x3_1 : Int) := of_decide_eq_true (by first | (with_reducible assumption) | assumption); have q132 : x3_1 < (l0.length : Int) := of_decide_eq_true (by first | (with_reducible assumption) | assumption); obtain ⟨ad132, e132, hx132_0, hx132_1⟩ := at_T58 HR0.out x3_1 p132 q132; have hw132_1 := hx132_1; have hw132_0 := hx132_0
          cases e132
          replace hx132_0 := (HB.out.cell (World.block_lt_of_cell? w _ hx132_0)).trans hx132_0; replace hx132_1 := (HB.out.cell (World.block_lt_of_cell? w _ hx132_1)).trans hx132_1; replace p132 := eq_true p132; replace q132 := eq_true q132; refine start_ (n := 48) (S := fun w' => w'.cell? (ad132.add ((x3_1).toNat * 2)) = some (.int .i64 ((rd_T58 l0 x3_1).f0)) ∧ w'.cell? ⟨(ad132.add ((x3_1).toNat * 2)).block, (ad132.add ((x3_1).toNat * 2)).off + 1, none⟩ = some (.int .i64 ((rd_T58 l0 x3_1).f1))) (ds := []) (bs 48 0) (by kernel_rfl) rfl rfl ⟨((HB.out.cell (World.block_lt_of_cell? w _ hw132_0)).trans hw132_0), ((HB.out.cell (World.block_lt_of_cell? w _ hw132_1)).trans hw132_1)⟩ (fun hHeld => ?_); refine with_tabW stopcockref23_list.tab6 stopcockref23_list.bits6 (fun HT_ HW_ => ?_); generalize wr.drew = w20 at HB hx132_0 hx132_1 hHeld ⊢; refine pu_ (i := 0) (N := some 13) (v := ?_) (a' := ?_) (bs 48 1) rfl rfl HT_.out (by kernel_rfl) (fun _ _ _ h => h) ⟨by rfl, ?_⟩ ?_ ?_; rotate_left; (intro w'; go_simp; with_reducible rfl); rotate_left; (simp only [Act.put, q1_, q2_, q3_, i64_w, i32_w]; rfl); refine pu_ (i := 1) (N := some 14) (v := ?_) (a' := ?_) (bs 48 3) rfl rfl HT_.out (by kernel_rfl) (fun _ _ _ h => h) ⟨by rfl, ?_⟩ ?_ ?_; rotate_left; (intro w'; go_simp; with_reducible rfl); rotate_left; (simp only [Act.put, q1_, q2_, q3_, i64_w, i32_w]; rfl); refine pu_ (i := 2) (N := some 15) (v := ?_) (a' := ?_) (bs 48 7) rfl rfl HT_.out (by kernel_rfl) (fun _ _ _ h => h) ⟨by rfl, ?_⟩ ?_ ?_; rotate_left; (intro w'; go_simp; with_reducible rfl); rotate_left; (simp only [Act.put, q1_, q2_, q3_, i64_w, i32_w]; rfl)
          refine pu_ (i := 3) (N := some 16) (v := ?_) (a' := ?_) (bs 48 15) rfl rfl HT_.out (by kernel_rfl) (fun _ _ _ h => h) ⟨by rfl, ?_⟩ ?_ ?_; rotate_left; (intro w'; go_simp; with_reducible rfl); rotate_left; (simp only [Act.put, q1_, q2_, q3_, i64_w, i32_w]; rfl); refine take_ (i := 4) (N := some 17) (v := ?_) (a' := ?_) (bs 48 31) rfl rfl (take_ofW HT_.out HW_.out (by kernel_rfl)) (fun _ _ _ h => h) (Or.inl ⟨by rfl, ?_⟩) hHeld ?_ ?_; rotate_left
          · rintro w' ⟨s0, s1⟩
            go_simp
            with_reducible rfl
          rotate_left
          · simp only [Act.put, q1_, q2_, q3_, i64_w, i32_w]
            rfl
          refine one_ (i := 5) (N := some 18) (bs 48 63) rfl rfl (one_of HT_.out (by kernel_rfl)) (by decide) (fun K hK => ?_); refine goes_ Try.func25 (by kernel_rfl) rfl #[.int .i64 ((rd_T58 l0 x3_1).f0), .int .i64 1099511627776] (by rfl) rfl rfl (by (try simp only [List.map_toArray, List.map_cons, List.map_nil]); first | done | rfl | (simp only [List.length_drop, List.length_take]; rfl)) ?_
          with_reducible refine (stopcockref23_within.calls ((rd_T58 l0 x3_1).f0) 1099511627776 false _ A5.out).mono ?_
          rintro e w' ⟨rfl, ⟨nd, rfl⟩⟩
          refine ⟨_, rfl, ?_⟩; refine hK.out _ _ ⟨((HB.out.cell (World.block_lt_of_cell? w _ hw132_0)).trans hw132_0), ((HB.out.cell (World.block_lt_of_cell? w _ hw132_1)).trans hw132_1)⟩ (fun hHeld => ?_); clear hK K; refine norm_ (a' := ?_) ?_ ?_; rotate_left
          · show Act.put _ (some 18) _ = _
            simp only [Act.put, q1_, q2_, q3_, i64_w, i32_w]
            rfl
          refine pu_ (i := 6) (N := some 19) (v := ?_) (a' := ?_) (bs 48 127) rfl rfl HT_.out (by kernel_rfl) (fun _ _ _ h => h) ⟨by rfl, ?_⟩ ?_ ?_; rotate_left; (intro w'; go_simp; with_reducible rfl); rotate_left; (simp only [Act.put, q1_, q2_, q3_, i64_w, i32_w]; rfl); refine pu_ (i := 7) (N := some 20) (v := ?_) (a' := ?_) (bs 48 255) rfl rfl HT_.out (by kernel_rfl) (fun _ _ _ h => h) ⟨by rfl, ?_⟩ ?_ ?_; rotate_left; (intro w'; go_simp; with_reducible rfl); rotate_left; (simp only [Act.put, q1_, q2_, q3_, i64_w, i32_w]; rfl); refine pure_ (i := 8) (N := some 21) (v := undef) (a' := ?_) (bs 48 511) rfl rfl (any_of HT_.out (by kernel_rfl)) (fun _ _ _ h => h) (Or.inr ⟨by rfl, rfl⟩) ?_ ?_; rotate_left
          · simp only [Act.put, q1_, q2_, q3_, i64_w, i32_w]
            rfl
          refine pure_ (i := 9) (N := some 22) (v := undef) (a' := ?_) (bs 48 1023) rfl rfl (any_of HT_.out (by kernel_rfl)) (fun _ _ _ h => h) (Or.inr ⟨by rfl, rfl⟩) ?_ ?_; rotate_left
          · simp only [Act.put, q1_, q2_, q3_, i64_w, i32_w]
            rfl
          refine pure_ (i := 10) (N := some 23) (v := undef) (a' := ?_) (bs 48 2047) rfl rfl (any_of HT_.out (by kernel_rfl)) (fun _ _ _ h => h) (Or.inr ⟨by rfl, rfl⟩) ?_ ?_; rotate_left
          · simp only [Act.put, q1_, q2_, q3_, i64_w, i32_w]
            rfl
          refine pure_ (i := 11) (N := some 24) (v := undef) (a' := ?_) (bs 48 4095) rfl rfl (any_of HT_.out (by kernel_rfl)) (fun _ _ _ h => h) (Or.inr ⟨by rfl, rfl⟩) ?_ ?_; rotate_left
          · simp only [Act.put, q1_, q2_, q3_, i64_w, i32_w]
            rfl
          refine pure_ (i := 12) (N := some 25) (v := undef) (a' := ?_) (bs 48 8191) rfl rfl (any_of HT_.out (by kernel_rfl)) (fun _ _ _ h => h) (Or.inr ⟨by rfl, rfl⟩) ?_ ?_; rotate_left
          · simp only [Act.put, q1_, q2_, q3_, i64_w, i32_w]
            rfl
          refine pure_ (i := 13) (N := some 26) (v := undef) (a' := ?_) (bs 48 16383) rfl rfl (any_of HT_.out (by kernel_rfl)) (fun _ _ _ h => h) (Or.inr ⟨by rfl, rfl⟩) ?_ ?_; rotate_left
          · simp only [Act.put, q1_, q2_, q3_, i64_w, i32_w]
            rfl
          refine pure_ (i := 14) (N := some 27) (v := undef) (a' := ?_) (bs 48 32767) rfl rfl (any_of HT_.out (by kernel_rfl)) (fun _ _ _ h => h) (Or.inr ⟨by rfl, rfl⟩) ?_ ?_; rotate_left
          · simp only [Act.put, q1_, q2_, q3_, i64_w, i32_w]
            rfl
          refine pu_ (i := 15) (N := some 28) (v := ?_) (a' := ?_) (bs 48 65535) rfl rfl HT_.out (by kernel_rfl) (fun _ _ _ h => h) ⟨by rfl, ?_⟩ ?_ ?_; rotate_left; (intro w'; go_simp; with_reducible rfl); rotate_left; (simp only [Act.put, q1_, q2_, q3_, i64_w, i32_w]; rfl); refine pu_ (i := 16) (N := some 29) (v := ?_) (a' := ?_) (bs 48 131071) rfl rfl HT_.out (by kernel_rfl) (fun _ _ _ h => h) ⟨by rfl, ?_⟩ ?_ ?_; rotate_left; (intro w'; go_simp; with_reducible rfl); rotate_left; (simp only [Act.put, q1_, q2_, q3_, i64_w, i32_w]; rfl); refine pure_ (i := 17) (N := some 30) (v := undef) (a' := ?_) (bs 48 262143) rfl rfl (any_of HT_.out (by kernel_rfl)) (fun _ _ _ h => h) (Or.inr ⟨by rfl, rfl⟩) ?_ ?_; rotate_left
          · simp only [Act.put, q1_, q2_, q3_, i64_w, i32_w]
            rfl
          refine pure_ (i := 18) (N := some 31) (v := undef) (a' := ?_) (bs 48 524287) rfl rfl (any_of HT_.out (by kernel_rfl)) (fun _ _ _ h => h) (Or.inr ⟨by rfl, rfl⟩) ?_ ?_; rotate_left
          · simp only [Act.put, q1_, q2_, q3_, i64_w, i32_w]
            rfl
          refine pure_ (i := 19) (N := some 32) (v := undef) (a' := ?_) (bs 48 1048575) rfl rfl (any_of HT_.out (by kernel_rfl)) (fun _ _ _ h => h) (Or.inr ⟨by rfl, rfl⟩) ?_ ?_; rotate_left
          · simp only [Act.put, q1_, q2_, q3_, i64_w, i32_w]
            rfl
          refine pure_ (i := 20) (N := some 33) (v := undef) (a' := ?_) (bs 48 2097151) rfl rfl (any_of HT_.out (by kernel_rfl)) (fun _ _ _ h => h) (Or.inr ⟨by rfl, rfl⟩) ?_ ?_; rotate_left
          · simp only [Act.put, q1_, q2_, q3_, i64_w, i32_w]
            rfl
          refine pure_ (i := 21) (N := some 34) (v := undef) (a' := ?_) (bs 48 4194303) rfl rfl (any_of HT_.out (by kernel_rfl)) (fun _ _ _ h => h) (Or.inr ⟨by rfl, rfl⟩) ?_ ?_; rotate_left
          · simp only [Act.put, q1_, q2_, q3_, i64_w, i32_w]
            rfl
          refine pure_ (i := 22) (N := some 35) (v := undef) (a' := ?_) (bs 48 8388607) rfl rfl (any_of HT_.out (by kernel_rfl)) (fun _ _ _ h => h) (Or.inr ⟨by rfl, rfl⟩) ?_ ?_; rotate_left
          · simp only [Act.put, q1_, q2_, q3_, i64_w, i32_w]
            rfl
          refine pure_ (i := 23) (N := some 36) (v := undef) (a' := ?_) (bs 48 16777215) rfl rfl (any_of HT_.out (by kernel_rfl)) (fun _ _ _ h => h) (Or.inr ⟨by rfl, rfl⟩) ?_ ?_; rotate_left
          · simp only [Act.put, q1_, q2_, q3_, i64_w, i32_w]
            rfl
          refine pure_ (i := 24) (N := some 37) (v := undef) (a' := ?_) (bs 48 33554431) rfl rfl (any_of HT_.out (by kernel_rfl)) (fun _ _ _ h => h) (Or.inr ⟨by rfl, rfl⟩) ?_ ?_; rotate_left
          · simp only [Act.put, q1_, q2_, q3_, i64_w, i32_w]
            rfl
          refine pure_ (i := 25) (N := some 38) (v := undef) (a' := ?_) (bs 48 67108863) rfl rfl (any_of HT_.out (by kernel_rfl)) (fun _ _ _ h => h) (Or.inr ⟨by rfl, rfl⟩) ?_ ?_; rotate_left
          · simp only [Act.put, q1_, q2_, q3_, i64_w, i32_w]
            rfl
          refine pure_ (i := 26) (N := some 39) (v := undef) (a' := ?_) (bs 48 134217727) rfl rfl (any_of HT_.out (by kernel_rfl)) (fun _ _ _ h => h) (Or.inr ⟨by rfl, rfl⟩) ?_ ?_; rotate_left
          · simp only [Act.put, q1_, q2_, q3_, i64_w, i32_w]
            rfl
          refine pure_ (i := 27) (N := some 40) (v := undef) (a' := ?_) (bs 48 268435455) rfl rfl (any_of HT_.out (by kernel_rfl)) (fun _ _ _ h => h) (Or.inr ⟨by rfl, rfl⟩) ?_ ?_; rotate_left
          · simp only [Act.put, q1_, q2_, q3_, i64_w, i32_w]
            rfl
          refine pure_ (i := 28) (N := some 41) (v := undef) (a' := ?_) (bs 48 536870911) rfl rfl (any_of HT_.out (by kernel_rfl)) (fun _ _ _ h => h) (Or.inr ⟨by rfl, rfl⟩) ?_ ?_; rotate_left
          · simp only [Act.put, q1_, q2_, q3_, i64_w, i32_w]
            rfl
          refine pure_ (i := 29) (N := some 42) (v := undef) (a' := ?_) (bs 48 1073741823) rfl rfl (any_of HT_.out (by kernel_rfl)) (fun _ _ _ h => h) (Or.inr ⟨by rfl, rfl⟩) ?_ ?_; rotate_left
          · simp only [Act.put, q1_, q2_, q3_, i64_w, i32_w]
            rfl
          refine pure_ (i := 30) (N := some 43) (v := undef) (a' := ?_) (bs 48 2147483647) rfl rfl (any_of HT_.out (by kernel_rfl)) (fun _ _ _ h => h) (Or.inr ⟨by rfl, rfl⟩) ?_ ?_; rotate_left
          · simp only [Act.put, q1_, q2_, q3_, i64_w, i32_w]
            rfl
          refine pure_ (i := 31) (N := some 44) (v := undef) (a' := ?_) (bs 48 4294967295) rfl rfl (any_of HT_.out (by kernel_rfl)) (fun _ _ _ h => h) (Or.inr ⟨by rfl, rfl⟩) ?_ ?_; rotate_left
          · simp only [Act.put, q1_, q2_, q3_, i64_w, i32_w]
            rfl
          refine pure_ (i := 32) (N := some 45) (v := undef) (a' := ?_) (bs 48 8589934591) rfl rfl (any_of HT_.out (by kernel_rfl)) (fun _ _ _ h => h) (Or.inr ⟨by rfl, rfl⟩) ?_ ?_; rotate_left
          · simp only [Act.put, q1_, q2_, q3_, i64_w, i32_w]
            rfl
          refine pure_ (i := 33) (N := some 46) (v := undef) (a' := ?_) (bs 48 17179869183) rfl rfl (any_of HT_.out (by kernel_rfl)) (fun _ _ _ h => h) (Or.inr ⟨by rfl, rfl⟩) ?_ ?_; rotate_left
          · simp only [Act.put, q1_, q2_, q3_, i64_w, i32_w]
            rfl
          refine pure_ (i := 34) (N := some 47) (v := undef) (a' := ?_) (bs 48 34359738367) rfl rfl (any_of HT_.out (by kernel_rfl)) (fun _ _ _ h => h) (Or.inr ⟨by rfl, rfl⟩) ?_ ?_; rotate_left
          · simp only [Act.put, q1_, q2_, q3_, i64_w, i32_w]
            rfl
          refine pure_ (i := 35) (N := some 48) (v := undef) (a' := ?_) (bs 48 68719476735) rfl rfl (any_of HT_.out (by kernel_rfl)) (fun _ _ _ h => h) (Or.inr ⟨by rfl, rfl⟩) ?_ ?_; rotate_left
          · simp only [Act.put, q1_, q2_, q3_, i64_w, i32_w]
            rfl
          refine pure_ (i := 36) (N := some 49) (v := undef) (a' := ?_) (bs 48 137438953471) rfl rfl (any_of HT_.out (by kernel_rfl)) (fun _ _ _ h => h) (Or.inr ⟨by rfl, rfl⟩) ?_ ?_; rotate_left
          · simp only [Act.put, q1_, q2_, q3_, i64_w, i32_w]
            rfl
          refine pure_ (i := 37) (N := some 50) (v := undef) (a' := ?_) (bs 48 274877906943) rfl rfl (any_of HT_.out (by kernel_rfl)) (fun _ _ _ h => h) (Or.inr ⟨by rfl, rfl⟩) ?_ ?_; rotate_left
          · simp only [Act.put, q1_, q2_, q3_, i64_w, i32_w]
            rfl
          refine pure_ (i := 38) (N := some 51) (v := undef) (a' := ?_) (bs 48 549755813887) rfl rfl (any_of HT_.out (by kernel_rfl)) (fun _ _ _ h => h) (Or.inr ⟨by rfl, rfl⟩) ?_ ?_; rotate_left
          · simp only [Act.put, q1_, q2_, q3_, i64_w, i32_w]
            rfl
          refine pure_ (i := 39) (N := some 52) (v := undef) (a' := ?_) (bs 48 1099511627775) rfl rfl (any_of HT_.out (by kernel_rfl)) (fun _ _ _ h => h) (Or.inr ⟨by rfl, rfl⟩) ?_ ?_; rotate_left
          · simp only [Act.put, q1_, q2_, q3_, i64_w, i32_w]
            rfl
          refine pure_ (i := 40) (N := some 53) (v := undef) (a' := ?_) (bs 48 2199023255551) rfl rfl (any_of HT_.out (by kernel_rfl)) (fun _ _ _ h => h) (Or.inr ⟨by rfl, rfl⟩) ?_ ?_; rotate_left
          · simp only [Act.put, q1_, q2_, q3_, i64_w, i32_w]
            rfl
          refine pure_ (i := 41) (N := some 54) (v := undef) (a' := ?_) (bs 48 4398046511103) rfl rfl (any_of HT_.out (by kernel_rfl)) (fun _ _ _ h => h) (Or.inr ⟨by rfl, rfl⟩) ?_ ?_; rotate_left
          · simp only [Act.put, q1_, q2_, q3_, i64_w, i32_w]
            rfl
          refine pure_ (i := 42) (N := some 55) (v := undef) (a' := ?_) (bs 48 8796093022207) rfl rfl (any_of HT_.out (by kernel_rfl)) (fun _ _ _ h => h) (Or.inr ⟨by rfl, rfl⟩) ?_ ?_; rotate_left
          · simp only [Act.put, q1_, q2_, q3_, i64_w, i32_w]
            rfl
          refine pure_ (i := 43) (N := some 56) (v := undef) (a' := ?_) (bs 48 17592186044415) rfl rfl (any_of HT_.out (by kernel_rfl)) (fun _ _ _ h => h) (Or.inr ⟨by rfl, rfl⟩) ?_ ?_; rotate_left
          · simp only [Act.put, q1_, q2_, q3_, i64_w, i32_w]
            rfl
          refine pure_ (i := 44) (N := some 57) (v := undef) (a' := ?_) (bs 48 35184372088831) rfl rfl (any_of HT_.out (by kernel_rfl)) (fun _ _ _ h => h) (Or.inr ⟨by rfl, rfl⟩) ?_ ?_; rotate_left
          · simp only [Act.put, q1_, q2_, q3_, i64_w, i32_w]
            rfl
          refine pure_ (i := 45) (N := some 58) (v := undef) (a' := ?_) (bs 48 70368744177663) rfl rfl (any_of HT_.out (by kernel_rfl)) (fun _ _ _ h => h) (Or.inr ⟨by rfl, rfl⟩) ?_ ?_; rotate_left
          · simp only [Act.put, q1_, q2_, q3_, i64_w, i32_w]
            rfl
          refine pure_ (i := 46) (N := some 59) (v := undef) (a' := ?_) (bs 48 140737488355327) rfl rfl (any_of HT_.out (by kernel_rfl)) (fun _ _ _ h => h) (Or.inr ⟨by rfl, rfl⟩) ?_ ?_; rotate_left
          · simp only [Act.put, q1_, q2_, q3_, i64_w, i32_w]
            rfl
          refine pu_ (i := 47) (N := some 60) (v := ?_) (a' := ?_) (bs 48 281474976710655) rfl rfl HT_.out (by kernel_rfl) (fun _ _ _ h => h) ⟨by rfl, ?_⟩ ?_ ?_; rotate_left; (intro w'; go_simp; with_reducible rfl); rotate_left; (simp only [Act.put, q1_, q2_, q3_, i64_w, i32_w]; rfl); refine done_ (done_of HT_.out (by kernel_rfl)) ?_
          try go_wp2
          go_ret
          exact ⟨by first | rfl | (simp [errW_none, errW_some] <;> rfl) | (simp [*, errW_none, errW_some] <;> rfl), by exact bel0 HB.out⟩
        rw [if_neg c4] at H; exact absurd H (by simp)
      rw [if_neg c3] at H; have c3b0 : decide (x3_1 < (l0.length : Int)) = false := decide_eq_false c3; clear c3; obtain rfl := Option.some.inj H
      go_wp2
      go_ret
      exact ⟨by first | rfl | (simp [errW_none, errW_some] <;> rfl) | (simp [*, errW_none, errW_some] <;> rfl), by exact bel0 HB.out⟩

end Go.Proofs.Ytodlibmnmjopbaa.PA
