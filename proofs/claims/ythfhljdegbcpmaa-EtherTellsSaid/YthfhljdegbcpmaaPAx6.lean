-- Written by a program of this session (wip/tools/mkprint.py, mp.sh) for this claim.
import Derived.Test.YthfhljdegbcpmaaPAx0
import Derived.Test.YthfhljdegbcpmaaPAx5
namespace Go.Proofs.Ythfhljdegbcpmaa.PA
open Go.RowKit Go.Proofs.YthfhljdegbcpmaaW.PrintWords Go.Proofs.YthfhljdegbcpmaaW.PrintLast Go.Proofs.YthfhljdegbcpmaaW.PrintMore
attribute [local go_sem] max2_int min2_int max_two min_two max_three min_three max_four min_four   -- for this text's walks alone
set_option linter.unusedVariables false
set_option linter.unusedSimpArgs false

/-! ### stopcockref03_Parse: function 16 -/
def stopcockref03_Parse.f (k : Nat) (l0 : List Int) : Option (Int × Int × Int × List Int × Int) := if (l0.length : Int) < 14 then (some (0, 0, 0, ([] : List Int), 8)) else (if (l0.length : Int) > 65535 then (some (0, 0, 0, ([] : List Int), 5)) else (if 6 ≤ (l0.length : Int) then ((stopcockref01_Number.f k (l0.take 6)).bind fun t240 => (if 6 ≤ 12 then (if 12 ≤ (l0.length : Int) then ((stopcockref01_Number.f k ((l0.take 12).drop 6)).bind fun t242 => (if 12 ≤ 14 then (if 14 ≤ (l0.length : Int) then ((stopcockref01_Number.f k ((l0.take 14).drop 12)).bind fun t244 => ((stopcockref03_Copied.f (l0.drop 14)).bind fun t246 => (some (t240, t242, wrap64 (t244), t246, 0)))) else (none)) else (none))) else (none)) else (none))) else (none)))
theorem stopcockref03_Parse.mono : ∀ a0 k, LeO (stopcockref03_Parse.f k a0) (stopcockref03_Parse.f (k + 1) a0) := by
  intro a0 k
  unfold stopcockref03_Parse.f
  repeat' first
      | (with_reducible exact stopcockref01_Number.mono _ _)
      | (with_reducible exact LeO.refl _)
      | (with_reducible exact LeO.none _)
      | (with_reducible refine LeO.ite ?_ ?_)
      | (with_reducible refine LeO.bind ?_ (fun _ => ?_))
      | exact stopcockref01_Number.mono _ _
      | exact LeO.none _
      | refine LeO.ite ?_ ?_
      | refine LeO.bind ?_ (fun _ => ?_)
def stopcockref03_Parse.T5 : Bool × List (List Nat × List Nat) := (true, [([], []), ([0], [0]), ([1], [1]), ([], []), ([3], [3]), ([4, 2], [4]), ([], []), ([6], [6]), ([7, 5], [7]), ([8], [8]), ([], []), ([10], [10]), ([11, 8], [11]), ([2, 5, 9, 12], [2, 5, 9, 12]), ([13, 12, 0, 1, 2, 3, 4, 5, 6, 7, 8, 9, 10, 11, 12, 13], [13]), ([14, 0, 1, 2, 3, 4, 5, 6, 7, 8, 9, 10, 11, 12, 13, 14], [])])
def stopcockref03_Parse.B5 : List Nat := [0, 1, 3, 0, 8, 31, 0, 64, 255, 511, 0, 1024, 3583, 8191, 16383, 32767]
theorem stopcockref03_Parse.tab5 : rtab .any (opsOf Try.f16 5) = stopcockref03_Parse.T5 := by kernel_rfl
theorem stopcockref03_Parse.bits5 : waitsOk stopcockref03_Parse.T5.2 stopcockref03_Parse.B5 = true := by kernel_rfl
set_option maxHeartbeats 8000000 in
set_option maxRecDepth 100000 in
theorem stopcockref03_Parse.calls (k : Nat) (A0 : Option Addr) (c0 : Nat) (l0 : List Int) (r1 : Int) (r2 : Int) (r3 : Int) (r4 : List Int) (r5 : Int) (w : World) (hr0 : Kd.C (Kd.int .u8) w A0 l0.length l0) (hc0 : l0.length ≤ c0) (h : stopcockref03_Parse.f k l0 = some (r1, r2, r3, r4, r5)) :
    Calls Try.prog 16 #[.slice A0 l0.length c0] w fun e w' => ∃ v3_ : Value, e = .returned (.tuple #[.agg #[.int .u64 r1, .int .u64 r2, .int .i64 r3, v3_], .int .i64 r5]) ∧ Kd.R (Kd.int .u8) 5 w' w.heap.size (fun _ => True) v3_ r4 ∧ Below w.heap.size w w' := by
  have hu25 := Try.underlying25; have HR0 := Aside0.mk hr0; have HC0 := Aside0.mk hc0; clear hr0 hc0; have HB := Aside0.mk (Below.refl w.heap.size w); have H : (if (l0.length : Int) < 14 then (some (0, 0, 0, ([] : List Int), 8)) else (if (l0.length : Int) > 65535 then (some (0, 0, 0, ([] : List Int), 5)) else (if 6 ≤ (l0.length : Int) then ((stopcockref01_Number.f k (l0.take 6)).bind fun t240 => (if 6 ≤ 12 then (if 12 ≤ (l0.length : Int) then ((stopcockref01_Number.f k ((l0.take 12).drop 6)).bind fun t242 => (if 12 ≤ 14 then (if 14 ≤ (l0.length : Int) then ((stopcockref01_Number.f k ((l0.take 14).drop 12)).bind fun t244 => ((stopcockref03_Copied.f (l0.drop 14)).bind fun t246 => (some (t240, t242, wrap64 (t244), t246, 0)))) else (none)) else (none))) else (none)) else (none))) else (none)))) = some (r1, r2, r3, r4, r5) := h; clear h
  by_cases c2 : (l0.length : Int) < 14
  · rw [if_pos c2] at H
    have c2b0 : decide ((l0.length : Int) < 14) = true := decide_eq_true c2; have c2b1 : decide (l0.length < 14) = true := decide_eq_true (by omega); clear c2
    simp only [Option.some.injEq, Prod.mk.injEq] at H
    obtain ⟨rfl, rfl, rfl, rfl, rfl⟩ := H
    go_enter Try.func16, Try.ntmps16
    go_wp2_with (first | ((with_reducible refine gate_dst (N := 2) rfl ?_); refine box_event ?hg (N := 2) ?hd (cs := #[.int .u64 0, .int .u64 0, .int .i64 0, .slice none 0 0]) (t := 25) ?hr ?_; (case hd => rfl); (case hg => rfl); (case hr => first | (go_simp; done) | (go_simp; rfl)); intro gb238 hg w3 hbox hb; have n0_ := Aside0.mk (below_step (bel0 HB.out) hb); have n1_ := Aside0.mk (hbox); have n2_ := Aside0.mk ((by rw [hg]; exact (below_size (bel0 HB.out)) : w.heap.size ≤ gb238)); have n3_ := n2_; clear HB; have HB := n0_; have BK238 := n1_; have GW238 := n2_; have GE238 := n3_; clear n0_ n1_ n2_ n3_; clear hb hbox hg; obtain ⟨hcz4_0, hcz4_1, hcz4_2, hcz4_3⟩ := cz4 BK238.out; have hfz4_0 := blk_frozen BK238.out))
    refine bodyPost_ret (results_ct rfl _ _ gb238 25 #[.int .u64 0, .int .u64 0, .int .i64 0, .slice none 0 0] (0, 0) _ rfl (by exact put_ BK238.out rfl) Try.underlying25 rfl (by kernel_rfl)) rfl ?_; exact ⟨_, by first | rfl | (simp [errW_none, errW_some] <;> rfl) | (simp [*, errW_none, errW_some] <;> rfl), by first | exact Kd.R_nil _ _ _ _ _ | exact Kd.N_nil _ _ _ _ _ | exact Kd.V_nil _ _ _ _ _ | exact Kd.Q_nil _ _ _ _ _ | exact Kd.S_nil _ _ _ _ _, by exact bel1 HB.out GE238.out⟩
  rw [if_neg c2] at H; have c2b0 : decide ((l0.length : Int) < 14) = false := decide_eq_false c2; have c2b1 : decide (l0.length < 14) = false := decide_eq_false (by omega); clear c2
  by_cases c5 : (l0.length : Int) > 65535
  · rw [if_pos c5] at H
    have c5b0 : decide (65535 < (l0.length : Int)) = true := decide_eq_true c5; have c5b1 : decide (65535 < l0.length) = true := decide_eq_true (by omega); clear c5
    simp only [Option.some.injEq, Prod.mk.injEq] at H
    obtain ⟨rfl, rfl, rfl, rfl, rfl⟩ := H
    go_enter Try.func16, Try.ntmps16
    go_wp2_with (first | ((with_reducible refine gate_dst (N := 2) rfl ?_); refine box_event ?hg (N := 2) ?hd (cs := #[.int .u64 0, .int .u64 0, .int .i64 0, .slice none 0 0]) (t := 25) ?hr ?_; (case hd => rfl); (case hg => rfl); (case hr => first | (go_simp; done) | (go_simp; rfl)); intro gb238 hg w6 hbox hb; have n0_ := Aside0.mk (below_step (bel0 HB.out) hb); have n1_ := Aside0.mk (hbox); have n2_ := Aside0.mk ((by rw [hg]; exact (below_size (bel0 HB.out)) : w.heap.size ≤ gb238)); have n3_ := n2_; clear HB; have HB := n0_; have BK238 := n1_; have GW238 := n2_; have GE238 := n3_; clear n0_ n1_ n2_ n3_; clear hb hbox hg; obtain ⟨hcz7_0, hcz7_1, hcz7_2, hcz7_3⟩ := cz4 BK238.out; have hfz7_0 := blk_frozen BK238.out))
    refine bodyPost_ret (results_ct rfl _ _ gb238 25 #[.int .u64 0, .int .u64 0, .int .i64 0, .slice none 0 0] (0, 0) _ rfl (by exact put_ BK238.out rfl) Try.underlying25 rfl (by kernel_rfl)) rfl ?_; exact ⟨_, by first | rfl | (simp [errW_none, errW_some] <;> rfl) | (simp [*, errW_none, errW_some] <;> rfl), by first | exact Kd.R_nil _ _ _ _ _ | exact Kd.N_nil _ _ _ _ _ | exact Kd.V_nil _ _ _ _ _ | exact Kd.Q_nil _ _ _ _ _ | exact Kd.S_nil _ _ _ _ _, by exact bel1 HB.out GE238.out⟩
  rw [if_neg c5] at H; have c5b0 : decide (65535 < (l0.length : Int)) = false := decide_eq_false c5; have c5b1 : decide (65535 < l0.length) = false := decide_eq_false (by omega); clear c5
  by_cases c8 : 6 ≤ (l0.length : Int)
  · rw [if_pos c8] at H
    have c8b0 := eq_true c8; have c8b1 : decide (6 ≤ (l0.length : Int)) = true := decide_eq_true c8; clear c8; replace H := Option.bind_eq_some_iff.mp H; obtain ⟨t240, A90, H⟩ := H; replace H : (if 6 ≤ 12 then (if 12 ≤ (l0.length : Int) then ((stopcockref01_Number.f k ((l0.take 12).drop 6)).bind fun t242 => (if 12 ≤ 14 then (if 14 ≤ (l0.length : Int) then ((stopcockref01_Number.f k ((l0.take 14).drop 12)).bind fun t244 => ((stopcockref03_Copied.f (l0.drop 14)).bind fun t246 => (some (t240, t242, wrap64 (t244), t246, 0)))) else (none)) else (none))) else (none)) else (none)) = some (r1, r2, r3, r4, r5) := H; have A9 := Aside0.mk A90; clear A90
    by_cases c10 : 6 ≤ 12
    · rw [if_pos c10] at H
      have c10b0 := eq_true c10; have c10b1 : decide (6 ≤ 12) = true := decide_eq_true c10; clear c10
      by_cases c11 : 12 ≤ (l0.length : Int)
      · rw [if_pos c11] at H
        have c11b0 := eq_true c11; have c11b1 : decide (12 ≤ (l0.length : Int)) = true := decide_eq_true c11; clear c11; replace H := Option.bind_eq_some_iff.mp H; obtain ⟨t242, A120, H⟩ := H; replace H : (if 12 ≤ 14 then (if 14 ≤ (l0.length : Int) then ((stopcockref01_Number.f k ((l0.take 14).drop 12)).bind fun t244 => ((stopcockref03_Copied.f (l0.drop 14)).bind fun t246 => (some (t240, t242, wrap64 (t244), t246, 0)))) else (none)) else (none)) = some (r1, r2, r3, r4, r5) := H; have A12 := Aside0.mk A120; clear A120
        by_cases c13 : 12 ≤ 14
        · rw [if_pos c13] at H
          have c13b0 := eq_true c13; have c13b1 : decide (12 ≤ 14) = true := decide_eq_true c13; clear c13
          by_cases c14 : 14 ≤ (l0.length : Int)
          · rw [if_pos c14] at H
            have c14b0 := eq_true c14; have c14b1 : decide (14 ≤ (l0.length : Int)) = true := decide_eq_true c14; clear c14; replace H := Option.bind_eq_some_iff.mp H; obtain ⟨t244, A150, H⟩ := H; replace H : ((stopcockref03_Copied.f (l0.drop 14)).bind fun t246 => (some (t240, t242, wrap64 (t244), t246, 0))) = some (r1, r2, r3, r4, r5) := H; have A15 := Aside0.mk A150; clear A150; have c16b0 := eq_true (of_decide_eq_true (by first | (with_reducible assumption) | assumption) : 14 ≤ (l0.length : Int)); replace H := Option.bind_eq_some_iff.mp H; obtain ⟨t246, A170, H⟩ := H; replace H : (some (t240, t242, wrap64 (t244), t246, 0)) = some (r1, r2, r3, r4, r5) := H; have A17 := Aside0.mk A170; clear A170
            simp only [Option.some.injEq, Prod.mk.injEq] at H
            obtain ⟨rfl, rfl, rfl, rfl, rfl⟩ := H
            go_enter Try.func16, Try.ntmps16
            try go_wp2_with (first | ((with_reducible refine gate_dst (N := 2) rfl ?_); refine box_event ?hg (N := 2) ?hd (cs := #[.int .u64 0, .int .u64 0, .int .i64 0, .slice none 0 0]) (t := 25) ?hr ?_; (case hd => rfl); (case hg => rfl); (case hr => first | (go_simp; done) | (go_simp; rfl)); intro gb238 hg w18 hbox hb; have n0_ := Aside0.mk (below_step (bel0 HB.out) hb); have n1_ := Aside0.mk (hbox); have n2_ := Aside0.mk ((by rw [hg]; exact (below_size (bel0 HB.out)) : w.heap.size ≤ gb238)); have n3_ := n2_; clear HB; have HB := n0_; have BK238 := n1_; have GW238 := n2_; have GE238 := n3_; clear n0_ n1_ n2_ n3_; clear hb hbox hg))
            have n0_ := Aside0.mk (blk_drew BK238.out); have n1_ := Aside0.mk (below_drew1 HB.out); clear BK238; clear HB; have BK238 := n0_; have HB := n1_; clear n0_ n1_; obtain ⟨i020, hi020, _, hsz20, _⟩ := info_parts info5; obtain ⟨hcut20, hA20, hC20⟩ := print_take_of (P := Try.prog) (Value.int .u8) 0 23 5 .i64 Try.underlying23 hi020 hsz20 A0 c0 l0 6 (by omega) (of_decide_eq_true (by first | (with_reducible assumption) | assumption)) HC0.out; have HR239 := Aside0.mk (Kd.C_of_reads (h1 := fun _ => rfl) (hA20 _ (Kd.reads_of_C HR0.out))); have HC239 := Aside0.mk hC20; clear hA20 hC20 hi020 hsz20; obtain ⟨i021, hi021, _, hsz21, _⟩ := info_parts info5; obtain ⟨A21, hcut21, hA21, hC21⟩ := print_mid_of (P := Try.prog) (Value.int .u8) 0 23 5 .i64 .i64 Try.underlying23 hi021 hsz21 A0 c0 l0 6 12 (by omega) (by first | omega | exact of_decide_eq_true (by first | (with_reducible assumption) | assumption)) (of_decide_eq_true (by first | (with_reducible assumption) | assumption)) HC0.out; have HR241 := Aside0.mk (Kd.C_of_reads (h1 := fun _ => rfl) (hA21 _ (Kd.reads_of_C HR0.out))); have HC241 := Aside0.mk hC21; clear hA21 hC21 hi021 hsz21; obtain ⟨i022, hi022, _, hsz22, _⟩ := info_parts info5; obtain ⟨A22, hcut22, hA22, hC22⟩ := print_mid_of (P := Try.prog) (Value.int .u8) 0 23 5 .i64 .i64 Try.underlying23 hi022 hsz22 A0 c0 l0 12 14 (by omega) (by first | omega | exact of_decide_eq_true (by first | (with_reducible assumption) | assumption)) (of_decide_eq_true (by first | (with_reducible assumption) | assumption)) HC0.out
            have HR243 := Aside0.mk (Kd.C_of_reads (h1 := fun _ => rfl) (hA22 _ (Kd.reads_of_C HR0.out))); have HC243 := Aside0.mk hC22; clear hA22 hC22 hi022 hsz22; obtain ⟨i023, hi023, _, hsz23, _⟩ := info_parts info5; obtain ⟨A23, hcut23, hA23, hC23⟩ := print_drop_of (P := Try.prog) (Value.int .u8) 0 23 5 .i64 Try.underlying23 hi023 hsz23 A0 c0 l0 14 (by omega) (of_decide_eq_true (by first | (with_reducible assumption) | assumption)) HC0.out; have HR245 := Aside0.mk (Kd.C_of_reads (h1 := fun _ => rfl) (hA23 _ (Kd.reads_of_C HR0.out))); have HC245 := Aside0.mk hC23; clear hA23 hC23 hi023 hsz23; refine start_ (n := 16) (S := fun w' => True) (ds := []) (bs 16 0) (by kernel_rfl) rfl rfl trivial (fun hHeld => ?_); refine with_tabW stopcockref03_Parse.tab5 stopcockref03_Parse.bits5 (fun HT_ HW_ => ?_); generalize w18.drew = w19 at BK238 HB HR239 HR241 HR243 HR245 hHeld ⊢; refine pu_ (i := 0) (N := some 14) (v := ?_) (a' := ?_) (bs 16 1) rfl rfl HT_.out (by kernel_rfl) (fun _ _ _ h => h) ⟨by rfl, ?_⟩ ?_ ?_; rotate_left; (intro w'; go_simp; with_reducible rfl); rotate_left; (simp only [Act.put, q1_, q2_, q3_, i64_w, i32_w]; rfl); refine pu_ (i := 1) (N := some 15) (v := ?_) (a' := ?_) (bs 16 3) rfl rfl HT_.out (by kernel_rfl) (fun _ _ _ h => h) ⟨by rfl, ?_⟩ ?_ ?_; rotate_left; (intro w'; go_simp; with_reducible rfl); rotate_left; (simp only [Act.put, q1_, q2_, q3_, i64_w, i32_w]; rfl); refine pu_ (i := 3) (N := some 17) (v := ?_) (a' := ?_) (bs 16 11) rfl rfl HT_.out (by kernel_rfl) (fun _ _ _ h => h) ⟨by rfl, ?_⟩ ?_ ?_; rotate_left; (intro w'; go_simp; with_reducible rfl); rotate_left; (simp only [Act.put, q1_, q2_, q3_, i64_w, i32_w]; rfl)
            refine pu_ (i := 4) (N := some 18) (v := ?_) (a' := ?_) (bs 16 27) rfl rfl HT_.out (by kernel_rfl) (fun _ _ _ h => h) ⟨by rfl, ?_⟩ ?_ ?_; rotate_left; (intro w'; go_simp; with_reducible rfl); rotate_left; (simp only [Act.put, q1_, q2_, q3_, i64_w, i32_w]; rfl); refine pu_ (i := 6) (N := some 20) (v := ?_) (a' := ?_) (bs 16 91) rfl rfl HT_.out (by kernel_rfl) (fun _ _ _ h => h) ⟨by rfl, ?_⟩ ?_ ?_; rotate_left; (intro w'; go_simp; with_reducible rfl); rotate_left; (simp only [Act.put, q1_, q2_, q3_, i64_w, i32_w]; rfl); refine pu_ (i := 7) (N := some 21) (v := ?_) (a' := ?_) (bs 16 219) rfl rfl HT_.out (by kernel_rfl) (fun _ _ _ h => h) ⟨by rfl, ?_⟩ ?_ ?_; rotate_left; (intro w'; go_simp; with_reducible rfl); rotate_left; (simp only [Act.put, q1_, q2_, q3_, i64_w, i32_w]; rfl); refine pu_ (i := 10) (N := some 24) (v := ?_) (a' := ?_) (bs 16 1243) rfl rfl HT_.out (by kernel_rfl) (fun _ _ _ h => h) ⟨by rfl, ?_⟩ ?_ ?_; rotate_left; (intro w'; go_simp; with_reducible rfl); rotate_left; (simp only [Act.put, q1_, q2_, q3_, i64_w, i32_w]; rfl); refine pu_ (i := 11) (N := some 25) (v := ?_) (a' := ?_) (bs 16 3291) rfl rfl HT_.out (by kernel_rfl) (fun _ _ _ h => h) ⟨by rfl, ?_⟩ ?_ ?_; rotate_left; (intro w'; go_simp; with_reducible rfl); rotate_left; (simp only [Act.put, q1_, q2_, q3_, i64_w, i32_w]; rfl); refine one_ (i := 2) (N := some 16) (bs 16 3295) rfl rfl (one_of HT_.out (by kernel_rfl)) (by decide) (fun K hK => ?_); refine goes_ Try.func25 (by kernel_rfl) rfl #[.slice A0 (l0.take 6).length c0] (by rfl) rfl rfl (by (try simp only [List.map_toArray, List.map_cons, List.map_nil]); first | done | (rw [show (l0.take 6).length = 6 from (by rw [List.length_take]; have h_ : (6 : Int) ≤ (l0.length : Int) := of_decide_eq_true (by first | (with_reducible assumption) | assumption); omega)] <;> rfl) | rfl | (simp only [List.length_drop, List.length_take]; rfl)) ?_
            with_reducible refine (stopcockref01_Number.calls k _ _ (l0.take 6) t240 _ ?side1 ?side2 A9.out).mono ?_
            (case side1 => repeat (first | exact (Kd.C_below HR239.out HB.out) | (with_reducible refine Kd.C_alloc ?_ _) | (with_reducible refine Kd.C_drewN ?_ _) | (with_reducible refine Kd.C_drew ?_)))
            (case side2 => exact HC239.out)
            rintro e w' ⟨rfl, ⟨nd, rfl⟩⟩
            refine ⟨_, rfl, ?_⟩; refine hK.out _ _ trivial (fun hHeld => ?_); clear hK K; refine norm_ (a' := ?_) ?_ ?_; rotate_left
            · show Act.put _ (some 16) _ = _
              simp only [Act.put, q1_, q2_, q3_, i64_w, i32_w]
              rfl
            refine one_ (i := 5) (N := some 19) (bs 16 3327) rfl rfl (one_of HT_.out (by kernel_rfl)) (by decide) (fun K hK => ?_); refine goes_ Try.func25 (by kernel_rfl) rfl #[.slice A21 ((l0.take 12).drop 6).length (c0 - 6)] (by rfl) rfl rfl (by (try simp only [List.map_toArray, List.map_cons, List.map_nil]); first | done | (rw [show ((l0.take 12).drop 6).length = (12 - 6) from (by rw [List.length_drop, List.length_take]; have h_ : (12 : Int) ≤ (l0.length : Int) := of_decide_eq_true (by first | (with_reducible assumption) | assumption); omega)] <;> rfl) | rfl | (simp only [List.length_drop, List.length_take]; rfl)) ?_
            with_reducible refine (stopcockref01_Number.calls k _ _ ((l0.take 12).drop 6) t242 _ ?side1 ?side2 A12.out).mono ?_
            (case side1 => repeat (first | exact (Kd.C_below HR241.out (bel1 HB.out GE238.out)) | (with_reducible refine Kd.C_alloc ?_ _) | (with_reducible refine Kd.C_drewN ?_ _) | (with_reducible refine Kd.C_drew ?_)))
            (case side2 => exact HC241.out)
            rintro e w' ⟨rfl, ⟨nd, rfl⟩⟩
            refine ⟨_, rfl, ?_⟩; refine hK.out _ _ trivial (fun hHeld => ?_); clear hK K; refine norm_ (a' := ?_) ?_ ?_; rotate_left
            · show Act.put _ (some 19) _ = _
              simp only [Act.put, q1_, q2_, q3_, i64_w, i32_w]
              rfl
            refine one_ (i := 8) (N := some 22) (bs 16 3583) rfl rfl (one_of HT_.out (by kernel_rfl)) (by decide) (fun K hK => ?_); refine goes_ Try.func25 (by kernel_rfl) rfl #[.slice A22 ((l0.take 14).drop 12).length (c0 - 12)] (by rfl) rfl rfl (by (try simp only [List.map_toArray, List.map_cons, List.map_nil]); first | done | (rw [show ((l0.take 14).drop 12).length = (14 - 12) from (by rw [List.length_drop, List.length_take]; have h_ : (14 : Int) ≤ (l0.length : Int) := of_decide_eq_true (by first | (with_reducible assumption) | assumption); omega)] <;> rfl) | rfl | (simp only [List.length_drop, List.length_take]; rfl)) ?_
            with_reducible refine (stopcockref01_Number.calls k _ _ ((l0.take 14).drop 12) t244 _ ?side1 ?side2 A15.out).mono ?_
            (case side1 => repeat (first | exact (Kd.C_below HR243.out (bel1 HB.out GE238.out)) | (with_reducible refine Kd.C_alloc ?_ _) | (with_reducible refine Kd.C_drewN ?_ _) | (with_reducible refine Kd.C_drew ?_)))
            (case side2 => exact HC243.out)
            rintro e w' ⟨rfl, ⟨nd, rfl⟩⟩
            refine ⟨_, rfl, ?_⟩; refine hK.out _ _ trivial (fun hHeld => ?_); clear hK K; refine norm_ (a' := ?_) ?_ ?_; rotate_left
            · show Act.put _ (some 22) _ = _
              simp only [Act.put, q1_, q2_, q3_, i64_w, i32_w]
              rfl
            refine pu_ (i := 9) (N := some 23) (v := ?_) (a' := ?_) (bs 16 4095) rfl rfl HT_.out (by kernel_rfl) (fun _ _ _ h => h) ⟨by rfl, ?_⟩ ?_ ?_; rotate_left; (intro w'; go_simp; with_reducible rfl); rotate_left; (simp only [Act.put, q1_, q2_, q3_, i64_w, i32_w]; rfl); refine one_ (i := 12) (N := some 26) (bs 16 8191) rfl rfl (one_of HT_.out (by kernel_rfl)) (by decide) (fun K hK => ?_); refine goes_ Try.func26 (by kernel_rfl) rfl #[.slice A23 (l0.drop 14).length (c0 - 14)] (by rfl) rfl rfl (by (try simp only [List.map_toArray, List.map_cons, List.map_nil]); first | done | (rw [show (l0.drop 14).length = (l0.length - 14) from List.length_drop] <;> rfl) | rfl | (simp only [List.length_drop, List.length_take]; rfl)) ?_
            with_reducible refine (stopcockref03_Copied.calls _ _ (l0.drop 14) t246 _ ?side1 ?side2 A17.out).mono ?_
            (case side1 => repeat (first | exact (Kd.C_below HR245.out (bel1 HB.out GE238.out)) | (with_reducible refine Kd.C_alloc ?_ _) | (with_reducible refine Kd.C_drewN ?_ _) | (with_reducible refine Kd.C_drew ?_)))
            (case side2 => exact HC245.out)
            rintro e w24 ⟨v247, rfl, ho0, hb⟩
            refine ⟨_, rfl, ?_⟩; have n0_ := Aside0.mk (Kd.R_lower ho0 (below_size (bel1 HB.out GE238.out))); have n1_ := Aside0.mk (blk_below (g := gb238) (o := .cells #[.int .u64 0, .int .u64 0, .int .i64 0, .slice none 0 0] 25 (0, 0)) (skp_ BK238.out) hb); have n2_ := Aside0.mk (below_step (bel1 HB.out GE238.out) hb); clear BK238; clear HB; have HO248 := n0_; have BK238 := n1_; have HB := n2_; clear n0_ n1_ n2_
            (try clear hb)
            (try clear hb2)
            (try clear hk)
            (try clear hi)
            (try clear ho0)
            obtain ⟨Ao25, co25, eo25⟩ := Kd.R_slice HO248.out
            (first | subst eo25 | (injection eo25 with f1_ f2_ f3_; have f4_ := f1_.symm; have f5_ := f3_.symm; clear f1_ f2_ f3_; subst f4_; subst f5_))
            refine hK.out _ _ trivial (fun hHeld => ?_); clear hK K; refine norm_ (a' := ?_) ?_ ?_; rotate_left
            · show Act.put _ (some 26) _ = _
              simp only [Act.put, q1_, q2_, q3_, i64_w, i32_w]
              rfl
            refine pu_ (i := 13) (N := some 27) (v := ?_) (a' := ?_) (bs 16 16383) rfl rfl HT_.out (by kernel_rfl) (fun _ _ _ h => h) ⟨by rfl, ?_⟩ ?_ ?_; rotate_left; (intro w'; go_simp; with_reducible rfl); rotate_left; (simp only [Act.put, q1_, q2_, q3_, i64_w, i32_w]; rfl); refine one_ (i := 14) (N := none) (bs 16 32767) rfl rfl (one_of HT_.out (by kernel_rfl)) (by decide) (fun K hK => ?_); have hs26 : w24.cell? ⟨gb238, 0, none⟩ = some (.int .u64 0) := (blk_cell BK238.out 0).trans rfl; have hfs26 := blk_frozen BK238.out 0; have hs27 : w24.cell? ⟨gb238, 1, none⟩ = some (.int .u64 0) := (blk_cell BK238.out 1).trans rfl; have hfs27 := blk_frozen BK238.out 1; have hs28 : w24.cell? ⟨gb238, 2, none⟩ = some (.int .i64 0) := (blk_cell BK238.out 2).trans rfl; have hfs28 := blk_frozen BK238.out 2; have hs29 : w24.cell? ⟨gb238, 3, none⟩ = some (.slice none 0 0) := (blk_cell BK238.out 3).trans rfl; have hfs29 := blk_frozen BK238.out 3; refine skip_ (w1 := ?_) (by rfl) rfl ?_ ?_; rotate_left
            · go_simp
              rfl
            refine hK.out _ _ trivial (fun hHeld => ?_); clear hK K; refine pu_ (i := 15) (N := some 3) (v := ?_) (a' := ?_) (bs 16 65535) rfl rfl HT_.out (by kernel_rfl) (fun _ _ _ h => h) ⟨by rfl, ?_⟩ ?_ ?_; rotate_left; (intro w'; go_simp; with_reducible rfl); rotate_left; (simp only [Act.put, q1_, q2_, q3_, i64_w, i32_w]; rfl); refine done_ (done_of HT_.out (by kernel_rfl)) ?_
            try go_wp2
            refine bodyPost_ret (results_ct rfl _ _ gb238 25 #[.int .u64 t240, .int .u64 t242, .int .i64 (wrap64 (t244)), .slice Ao25 t246.length co25] (0, 0) _ rfl (by exact put_ BK238.out rfl) Try.underlying25 rfl (by kernel_rfl)) rfl ?_; exact ⟨_, by first | rfl | (simp [errW_none, errW_some] <;> rfl) | (simp [*, errW_none, errW_some] <;> rfl), by (with_reducible repeat (first | apply Kd.R_alloc | apply Kd.R_drewN | apply Kd.R_drew)); exact Kd.R_mono (Kd.R_far (p := ⟨gb238, 3, none⟩) (Kd.R_far (p := ⟨gb238, 2, none⟩) (Kd.R_far (p := ⟨gb238, 1, none⟩) (Kd.R_far (p := ⟨gb238, 0, none⟩) (Kd.R_types HO248.out BK238.out (by decide)) (fun _ hk => hk.2) (.int .u64 t240)) (fun _ hk => hk.2) (.int .u64 t242)) (fun _ hk => hk.2) (.int .i64 (wrap64 (t244)))) (fun _ hk => hk.2) (.slice Ao25 t246.length co25)) (fun _ hk => trivial), by exact bel1 HB.out GE238.out⟩
          rw [if_neg c14] at H; exact absurd H (by simp)
        rw [if_neg c13] at H; exact absurd H (by simp)
      rw [if_neg c11] at H; exact absurd H (by simp)
    rw [if_neg c10] at H; exact absurd H (by simp)
  rw [if_neg c8] at H; exact absurd H (by simp)

/-! ### ether_ParseArp: function 17 -/
def ether_ParseArp.f (l0 : List Int) : Option (Int × Int × Int × Int × Int × Int) := Hand.parseArpF l0
set_option maxHeartbeats 8000000 in
set_option maxRecDepth 100000 in
theorem ether_ParseArp.calls (A0 : Option Addr) (c0 : Nat) (l0 : List Int) (r1 : Int) (r2 : Int) (r3 : Int) (r4 : Int) (r5 : Int) (r6 : Int) (w : World) (hr0 : Kd.C (Kd.int .u8) w A0 l0.length l0) (hc0 : l0.length ≤ c0) (h : ether_ParseArp.f l0 = some (r1, r2, r3, r4, r5, r6)) :
    Calls Try.prog 17 #[.slice A0 l0.length c0] w fun e w' => e = .returned (.tuple #[.agg #[.int .i64 r1, .int .u64 r2, .int .u32 r3, .int .u64 r4, .int .u32 r5], .int .i64 r6]) ∧ Below w.heap.size w w' := by
  exact Hand.parseArp_calls A0 c0 l0 r1 r2 r3 r4 r5 r6 w hr0 hc0 h

end Go.Proofs.Ythfhljdegbcpmaa.PA
