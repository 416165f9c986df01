-- Written by a program of this session (wip/tools/mkprint.py, mp.sh) for this claim.
import Derived.Test.YthfhljdegbcpmaaPAx0
import Derived.Test.YthfhljdegbcpmaaPAx4
import Derived.Test.YthfhljdegbcpmaaPAx5
namespace Go.Proofs.Ythfhljdegbcpmaa.PA
open Go.RowKit Go.Proofs.YthfhljdegbcpmaaW.PrintWords Go.Proofs.YthfhljdegbcpmaaW.PrintLast Go.Proofs.YthfhljdegbcpmaaW.PrintMore
attribute [local go_sem] max2_int min2_int max_two min_two max_three min_three max_four min_four   -- for this text's walks alone
set_option linter.unusedVariables false
set_option linter.unusedSimpArgs false

/-! ### stopcockref03_ParseArp: function 18 -/
mutual
def stopcockref03_ParseArp.l0 : Nat → List Int → List Int → Int → Option (Int × Int × Int × Int × Int × Int)
  | 0, _, _, _ => none
  | k + 1, x0, x4, x5 => if x5 < 7 then (if 0 ≤ x5 then (if x5 < (x0.length : Int) then (if x5 < (x4.length : Int) then (if (rd x0 x5) = (rd x4 x5) then (stopcockref03_ParseArp.l0 k x0 x4 (wrap64 (x5 + 1))) else (some (0, 0, 0, 0, 0, 31))) else (none)) else (none)) else (none)) else (if 7 < (x0.length : Int) then (if (rd x0 7) = 1 then (stopcockref03_ParseArp.j1 k x0 false) else (stopcockref03_ParseArp.j1 k x0 ((rd x0 7) != 2))) else (none))
def stopcockref03_ParseArp.j1 : Nat → List Int → Bool → Option (Int × Int × Int × Int × Int × Int)
  | 0, _, _ => none
  | k + 1, x0, x36 => if x36 = true then (some (0, 0, 0, 0, 0, 31)) else (if 14 ≤ 18 then (if 18 ≤ (x0.length : Int) then ((stopcockref01_Number.f k ((x0.take 18).drop 14)).bind fun t258 => (if 24 ≤ 28 then (if 28 ≤ (x0.length : Int) then ((stopcockref01_Number.f k ((x0.take 28).drop 24)).bind fun t260 => (if 7 < (x0.length : Int) then (if 8 ≤ 14 then (if 14 ≤ (x0.length : Int) then ((stopcockref01_Number.f k ((x0.take 14).drop 8)).bind fun t263 => (if 18 ≤ 24 then (if 24 ≤ (x0.length : Int) then ((stopcockref01_Number.f k ((x0.take 24).drop 18)).bind fun t265 => (some (wrap64 (rd x0 7), t263, (t258) % 4294967296, t265, (t260) % 4294967296, 0))) else (none)) else (none))) else (none)) else (none)) else (none))) else (none)) else (none))) else (none)) else (none))
end
def stopcockref03_ParseArp.f (k : Nat) (l0 : List Int) : Option (Int × Int × Int × Int × Int × Int) := if (l0.length : Int) < 28 then (some (0, 0, 0, 0, 0, 8)) else ((stopcockref03_head.f).bind fun t250 => (stopcockref03_ParseArp.l0 k l0 t250 0))
theorem stopcockref03_ParseArp.mono_l : ∀ k, (∀ y0 y1 y2, LeO (stopcockref03_ParseArp.l0 k y0 y1 y2) (stopcockref03_ParseArp.l0 (k + 1) y0 y1 y2)) ∧ (∀ y0 y1, LeO (stopcockref03_ParseArp.j1 k y0 y1) (stopcockref03_ParseArp.j1 (k + 1) y0 y1))
  | 0 => ⟨fun _ _ _ r h => by simp [stopcockref03_ParseArp.l0] at h, fun _ _ r h => by simp [stopcockref03_ParseArp.j1] at h⟩
  | k + 1 => by
    obtain ⟨ih0, ih1⟩ := stopcockref03_ParseArp.mono_l k; refine ⟨?_, ?_⟩
    · intro y0 y1 y2
      unfold stopcockref03_ParseArp.l0
      repeat' first
      | (with_reducible exact ih0 _ _ _)
      | (with_reducible exact ih1 _ _)
      | (with_reducible exact stopcockref01_Number.mono _ _)
      | (with_reducible exact LeO.refl _)
      | (with_reducible exact LeO.none _)
      | (with_reducible refine LeO.ite ?_ ?_)
      | (with_reducible refine LeO.bind ?_ (fun _ => ?_))
      | exact ih0 _ _ _
      | exact ih1 _ _
      | exact stopcockref01_Number.mono _ _
      | exact LeO.none _
      | refine LeO.ite ?_ ?_
      | refine LeO.bind ?_ (fun _ => ?_)
    · intro y0 y1
      unfold stopcockref03_ParseArp.j1
      repeat' first
      | (with_reducible exact ih0 _ _ _)
      | (with_reducible exact ih1 _ _)
      | (with_reducible exact stopcockref01_Number.mono _ _)
      | (with_reducible exact LeO.refl _)
      | (with_reducible exact LeO.none _)
      | (with_reducible refine LeO.ite ?_ ?_)
      | (with_reducible refine LeO.bind ?_ (fun _ => ?_))
      | exact ih0 _ _ _
      | exact ih1 _ _
      | exact stopcockref01_Number.mono _ _
      | exact LeO.none _
      | refine LeO.ite ?_ ?_
      | refine LeO.bind ?_ (fun _ => ?_)
theorem stopcockref03_ParseArp.mono : ∀ a0 k, LeO (stopcockref03_ParseArp.f k a0) (stopcockref03_ParseArp.f (k + 1) a0) := by
  intro a0 k; obtain ⟨ih0, ih1⟩ := stopcockref03_ParseArp.mono_l k
  unfold stopcockref03_ParseArp.f
  repeat' first
      | (with_reducible exact ih0 _ _ _)
      | (with_reducible exact ih1 _ _)
      | (with_reducible exact stopcockref01_Number.mono _ _)
      | (with_reducible exact LeO.refl _)
      | (with_reducible exact LeO.none _)
      | (with_reducible refine LeO.ite ?_ ?_)
      | (with_reducible refine LeO.bind ?_ (fun _ => ?_))
      | exact ih0 _ _ _
      | exact ih1 _ _
      | exact stopcockref01_Number.mono _ _
      | exact LeO.none _
      | refine LeO.ite ?_ ?_
      | refine LeO.bind ?_ (fun _ => ?_)
def stopcockref03_ParseArp.T7 : Bool × List (List Nat × List Nat) := (true, [([], []), ([], []), ([0, 1], [0, 1]), ([2], [2]), ([], []), ([], []), ([4, 5], [4, 5]), ([6], [6]), ([3, 7], [3, 7])])
def stopcockref03_ParseArp.B7 : List Nat := [0, 0, 3, 7, 0, 0, 48, 112, 255]
theorem stopcockref03_ParseArp.tab7 : rtab .any (opsOf Try.f18 7) = stopcockref03_ParseArp.T7 := by kernel_rfl
theorem stopcockref03_ParseArp.bits7 : waitsOk stopcockref03_ParseArp.T7.2 stopcockref03_ParseArp.B7 = true := by kernel_rfl
def stopcockref03_ParseArp.T13 : Bool × List (List Nat × List Nat) := (true, [([], []), ([0], [0]), ([1], [1]), ([2], [2]), ([], []), ([4], [4]), ([5], [5]), ([], []), ([7], [7]), ([], []), ([9], [9]), ([10, 6], [10]), ([], []), ([12], [12]), ([3, 6, 8, 11, 13], [3, 6, 8, 11, 13]), ([14, 11, 0, 1, 2, 3, 4, 5, 6, 7, 8, 9, 10, 11, 12, 13, 14], [14]), ([15, 0, 1, 2, 3, 4, 5, 6, 7, 8, 9, 10, 11, 12, 13, 14, 15], [])])
def stopcockref03_ParseArp.B13 : List Nat := [0, 1, 3, 7, 0, 16, 48, 0, 128, 0, 512, 1648, 0, 4096, 16383, 32767, 65535]
theorem stopcockref03_ParseArp.tab13 : rtab .any (opsOf Try.f18 13) = stopcockref03_ParseArp.T13 := by kernel_rfl
theorem stopcockref03_ParseArp.bits13 : waitsOk stopcockref03_ParseArp.T13.2 stopcockref03_ParseArp.B13 = true := by kernel_rfl
set_option maxHeartbeats 8000000 in
set_option maxRecDepth 100000 in
theorem stopcockref03_ParseArp.calls (k : Nat) (A0 : Option Addr) (c0 : Nat) (l0 : List Int) (r1 : Int) (r2 : Int) (r3 : Int) (r4 : Int) (r5 : Int) (r6 : Int) (w : World) (hr0 : Kd.C (Kd.int .u8) w A0 l0.length l0) (hc0 : l0.length ≤ c0) (h : stopcockref03_ParseArp.f k l0 = some (r1, r2, r3, r4, r5, r6)) :
    Calls Try.prog 18 #[.slice A0 l0.length c0] w fun e w' => e = .returned (.tuple #[.agg #[.int .i64 r1, .int .u64 r2, .int .u32 r3, .int .u64 r4, .int .u32 r5], .int .i64 r6]) ∧ Below w.heap.size w w' := by
  have hu39 := Try.underlying39; have HR0 := Aside0.mk hr0; have HC0 := Aside0.mk hc0; clear hr0 hc0; have HB := Aside0.mk (Below.refl w.heap.size w); have H : (if (l0.length : Int) < 28 then (some (0, 0, 0, 0, 0, 8)) else ((stopcockref03_head.f).bind fun t250 => (stopcockref03_ParseArp.l0 k l0 t250 0))) = some (r1, r2, r3, r4, r5, r6) := h; clear h
  by_cases c2 : (l0.length : Int) < 28
  · rw [if_pos c2] at H
    have c2b0 : decide ((l0.length : Int) < 28) = true := decide_eq_true c2; have c2b1 : decide (l0.length < 28) = true := decide_eq_true (by omega); clear c2
    simp only [Option.some.injEq, Prod.mk.injEq] at H
    obtain ⟨rfl, rfl, rfl, rfl, rfl, rfl⟩ := H
    go_enter Try.func18, Try.ntmps18
    go_wp2_with (first | ((with_reducible refine gate_dst (N := 2) rfl ?_); refine box_event ?hg (N := 2) ?hd (cs := #[.int .i64 0, .int .u64 0, .int .u32 0, .int .u64 0, .int .u32 0]) (t := 39) ?hr ?_; (case hd => rfl); (case hg => rfl); (case hr => first | (go_simp; done) | (go_simp; rfl)); intro gb249 hg w3 hbox hb; have n0_ := Aside0.mk (below_step (bel0 HB.out) hb); have n1_ := Aside0.mk (hbox); have n2_ := Aside0.mk ((by rw [hg]; exact (below_size (bel0 HB.out)) : w.heap.size ≤ gb249)); have n3_ := n2_; clear HB; have HB := n0_; have BK249 := n1_; have GW249 := n2_; have GE249 := n3_; clear n0_ n1_ n2_ n3_; clear hb hbox hg; obtain ⟨hcz4_0, hcz4_1, hcz4_2, hcz4_3, hcz4_4⟩ := cz5 BK249.out; have hfz4_0 := blk_frozen BK249.out))
    refine bodyPost_ret (results_ct rfl _ _ gb249 39 #[.int .i64 0, .int .u64 0, .int .u32 0, .int .u64 0, .int .u32 0] (0, 0) _ rfl (by exact put_ BK249.out rfl) Try.underlying39 rfl (by kernel_rfl)) rfl ?_; exact ⟨by first | rfl | (simp [errW_none, errW_some] <;> rfl) | (simp [*, errW_none, errW_some] <;> rfl), by exact bel1 HB.out GE249.out⟩
  rw [if_neg c2] at H; have c2b0 : decide ((l0.length : Int) < 28) = false := decide_eq_false c2; have c2b1 : decide (l0.length < 28) = false := decide_eq_false (by omega); clear c2; replace H := Option.bind_eq_some_iff.mp H; obtain ⟨t250, A50, H⟩ := H; replace H : (stopcockref03_ParseArp.l0 k l0 t250 0) = some (r1, r2, r3, r4, r5, r6) := H; have A5 := Aside0.mk A50; clear A50; have H' := Aside0.mk H; clear H
  go_enter Try.func18, Try.ntmps18
  go_wp2_with (first | ((with_reducible refine gate_dst (N := 2) rfl ?_); refine box_event ?hg (N := 2) ?hd (cs := #[.int .i64 0, .int .u64 0, .int .u32 0, .int .u64 0, .int .u32 0]) (t := 39) ?hr ?_; (case hd => rfl); (case hg => rfl); (case hr => first | (go_simp; done) | (go_simp; rfl)); intro gb249 hg w6 hbox hb; have n0_ := Aside0.mk (below_step (bel0 HB.out) hb); have n1_ := Aside0.mk (hbox); have n2_ := Aside0.mk ((by rw [hg]; exact (below_size (bel0 HB.out)) : w.heap.size ≤ gb249)); have n3_ := n2_; clear HB; have HB := n0_; have BK249 := n1_; have GW249 := n2_; have GE249 := n3_; clear n0_ n1_ n2_ n3_; clear hb hbox hg) | ((with_reducible refine gate_callee (f := 24) rfl ?_); refine goesL_ (some 12) rfl rfl Try.func24 (by kernel_rfl) rfl #[] rfl (by (try simp only [List.map_toArray, List.map_cons, List.map_nil]); first | done | rfl | (simp only [List.length_drop, List.length_take]; rfl)) ?_; (with_reducible refine (stopcockref03_head.calls  t250 _ A5.out).mono ?_); rintro e w7 ⟨v251, rfl, ho0, hb⟩; refine ⟨_, rfl, ?_⟩; have n0_ := Aside0.mk (Kd.R_lower ho0 (below_size (bel1 HB.out GE249.out))); have n1_ := Aside0.mk (blk_below (g := gb249) (o := .cells #[.int .i64 0, .int .u64 0, .int .u32 0, .int .u64 0, .int .u32 0] 39 (0, 0)) (skp_ BK249.out) hb); have n2_ := Aside0.mk (below_step (bel1 HB.out GE249.out) hb); clear BK249; clear HB; have HO252 := n0_; have BK249 := n1_; have HB := n2_; clear n0_ n1_ n2_; (try clear hb); (try clear hb2); (try clear hk); (try clear hi); (try clear ho0)))
  go_loopg [5] k (fun kq v5 w' => ∃ (x5_1 : Int) (x250000_1 : Int) (x250001_1 : Int) (x250002_1 : Int) (x250003_1 : Int) (x250004_1 : Int), v5 = .int .i64 x5_1 ∧ Aside0 (stopcockref03_ParseArp.l0 kq l0 t250 x5_1 = some (r1, r2, r3, r4, r5, r6)) ∧ Aside0 (kq ≤ k) ∧ Aside0 (Kd.R (Kd.int .u8) 5 w' w.heap.size (fun _ => True) v251 t250) ∧ Aside0 (w'.heap[gb249]? = some (.cells #[.int .i64 x250000_1, .int .u64 x250001_1, .int .u32 x250002_1, .int .u64 x250003_1, .int .u32 x250004_1] 39 (0, 0))) ∧ Aside0 (Below w.heap.size w w'))
  case atStart => exact ⟨(0), (0), (0), (0), (0), (0), (by first | rfl | (simp; done) | (simp [*]; done)), H', ⟨Nat.le_refl _⟩, ⟨by (with_reducible repeat (first | apply Kd.R_alloc | apply Kd.R_drewN | apply Kd.R_drew)); exact HO252.out⟩, ⟨by exact skp_ BK249.out⟩, ⟨by exact bel1 HB.out GE249.out⟩⟩
  case round =>
    clear H'
    try clear c1
    try clear c2
    try clear c2b0
    try clear c2b1
    try clear p2
    try clear hcz4_0
    try clear hcz4_1
    try clear hcz4_2
    try clear hcz4_3
    try clear hcz4_4
    try clear hfz4_0
    try clear hfz4_1
    try clear hfz4_2
    try clear hfz4_3
    try clear hfz4_4
    obtain ⟨x5_1, x250000_1, x250001_1, x250002_1, x250003_1, x250004_1, rfl, HA, HK1, HO_4, BK249, HB⟩ := hrel
    cases gk with
    | zero => exact absurd HA.out (by simp [stopcockref03_ParseArp.l0])
    | succ k1 =>
      have H := HA.out; clear HA
      simp only [stopcockref03_ParseArp.l0] at H
      by_cases c8 : x5_1 < 7
      · rw [if_pos c8] at H
        have c8b0 : decide (x5_1 < 7) = true := decide_eq_true c8; clear c8
        by_cases c9 : 0 ≤ x5_1
        · rw [if_pos c9] at H
          have c9b0 : decide (0 ≤ x5_1) = true := decide_eq_true c9; clear c9
          by_cases c10 : x5_1 < (l0.length : Int)
          · rw [if_pos c10] at H
            have c10b0 : decide (x5_1 < (l0.length : Int)) = true := decide_eq_true c10; clear c10
            by_cases c11 : x5_1 < (t250.length : Int)
            · rw [if_pos c11] at H
              have c11b0 : decide (x5_1 < (t250.length : Int)) = true := decide_eq_true c11; clear c11
              by_cases c12 : (rd l0 x5_1) = (rd t250 x5_1)
              · rw [if_pos c12] at H
                have c12b0 : ((rd l0 x5_1) == (rd t250 x5_1)) = true := beq_iff_eq.mpr c12; have c12b1 : ((rd l0 x5_1) != (rd t250 x5_1)) = false := bne_eq_false_iff_eq.mpr c12; clear c12; have H' := Aside0.mk H; clear H
                try go_wp2
                have n0_ := Aside0.mk (Kd.R_drew HO_4.out); have n1_ := Aside0.mk (blk_drew BK249.out); have n2_ := Aside0.mk (below_drew1 HB.out); clear HO_4; clear BK249; clear HB; have HO_4 := n0_; have BK249 := n1_; have HB := n2_; clear n0_ n1_ n2_; have p253 : 0 ≤ (x5_1 : Int) := of_decide_eq_true (by first | (with_reducible assumption) | assumption); have q253 : x5_1 < (l0.length : Int) := of_decide_eq_true (by first | (with_reducible assumption) | assumption); obtain ⟨ad253, e253, hx253_0⟩ := Kd.at_int HR0.out x5_1 p253 q253; have hw253_0 := hx253_0
                cases e253
                replace hx253_0 := (HB.out.cell (World.block_lt_of_cell? w _ hx253_0)).trans hx253_0; replace p253 := eq_true p253; replace q253 := eq_true q253; obtain ⟨Ao14, co14, eo14⟩ := Kd.R_slice HO_4.out
                (first | subst eo14 | (injection eo14 with f1_ f2_ f3_; have f4_ := f1_.symm; have f5_ := f3_.symm; clear f1_ f2_ f3_; subst f4_; subst f5_))
                have p254 : 0 ≤ (x5_1 : Int) := of_decide_eq_true (by first | (with_reducible assumption) | assumption); have q254 : x5_1 < (t250.length : Int) := of_decide_eq_true (by first | (with_reducible assumption) | assumption); obtain ⟨ad254, e254, hx254_0⟩ := Kd.at_int (Kd.R_reads' HO_4.out).2.2 x5_1 p254 q254
                cases e254
                replace p254 := eq_true p254; replace q254 := eq_true q254; refine start_ (n := 9) (S := fun w' => w'.cell? (ad253.add (x5_1).toNat) = some (.int .u8 (rd l0 x5_1)) ∧ w'.cell? (ad254.add (x5_1).toNat) = some (.int .u8 (rd t250 x5_1))) (ds := []) (bs 9 0) (by kernel_rfl) rfl rfl ⟨((HB.out.cell (World.block_lt_of_cell? w _ hw253_0)).trans hw253_0), hx254_0⟩ (fun hHeld => ?_); refine with_tabW stopcockref03_ParseArp.tab7 stopcockref03_ParseArp.bits7 (fun HT_ HW_ => ?_); generalize wr.drew = w13 at HO_4 BK249 HB hx253_0 hx254_0 hHeld ⊢; refine pu_ (i := 0) (N := some 17) (v := ?_) (a' := ?_) (bs 9 1) rfl rfl HT_.out (by kernel_rfl) (fun _ _ _ h => h) ⟨by rfl, ?_⟩ ?_ ?_; rotate_left; (intro w'; go_simp; with_reducible rfl); rotate_left; (simp only [Act.put, q1_, q2_, q3_, i64_w, i32_w]; rfl); refine pu_ (i := 1) (N := some 18) (v := ?_) (a' := ?_) (bs 9 3) rfl rfl HT_.out (by kernel_rfl) (fun _ _ _ h => h) ⟨by rfl, ?_⟩ ?_ ?_; rotate_left; (intro w'; go_simp; with_reducible rfl); rotate_left; (simp only [Act.put, q1_, q2_, q3_, i64_w, i32_w]; rfl); refine pu_ (i := 2) (N := some 19) (v := ?_) (a' := ?_) (bs 9 7) rfl rfl HT_.out (by kernel_rfl) (fun _ _ _ h => h) ⟨by rfl, ?_⟩ ?_ ?_; rotate_left; (intro w'; go_simp; with_reducible rfl); rotate_left; (simp only [Act.put, q1_, q2_, q3_, i64_w, i32_w]; rfl); refine pu_ (i := 4) (N := some 21) (v := ?_) (a' := ?_) (bs 9 23) rfl rfl HT_.out (by kernel_rfl) (fun _ _ _ h => h) ⟨by rfl, ?_⟩ ?_ ?_; rotate_left; (intro w'; go_simp; with_reducible rfl); rotate_left; (simp only [Act.put, q1_, q2_, q3_, i64_w, i32_w]; rfl)
                refine pu_ (i := 5) (N := some 22) (v := ?_) (a' := ?_) (bs 9 55) rfl rfl HT_.out (by kernel_rfl) (fun _ _ _ h => h) ⟨by rfl, ?_⟩ ?_ ?_; rotate_left; (intro w'; go_simp; with_reducible rfl); rotate_left; (simp only [Act.put, q1_, q2_, q3_, i64_w, i32_w]; rfl); refine pu_ (i := 6) (N := some 23) (v := ?_) (a' := ?_) (bs 9 119) rfl rfl HT_.out (by kernel_rfl) (fun _ _ _ h => h) ⟨by rfl, ?_⟩ ?_ ?_; rotate_left; (intro w'; go_simp; with_reducible rfl); rotate_left; (simp only [Act.put, q1_, q2_, q3_, i64_w, i32_w]; rfl); refine take_ (i := 3) (N := some 20) (v := ?_) (a' := ?_) (bs 9 127) rfl rfl (take_ofW HT_.out HW_.out (by kernel_rfl)) (fun _ _ _ h => h) (Or.inl ⟨by rfl, ?_⟩) hHeld ?_ ?_; rotate_left
                · rintro w' ⟨s0, s1⟩
                  go_simp
                  with_reducible rfl
                rotate_left
                · simp only [Act.put, q1_, q2_, q3_, i64_w, i32_w]
                  rfl
                refine take_ (i := 7) (N := some 24) (v := ?_) (a' := ?_) (bs 9 255) rfl rfl (take_ofW HT_.out HW_.out (by kernel_rfl)) (fun _ _ _ h => h) (Or.inl ⟨by rfl, ?_⟩) hHeld ?_ ?_; rotate_left
                · rintro w' ⟨s0, s1⟩
                  go_simp
                  with_reducible rfl
                rotate_left
                · simp only [Act.put, q1_, q2_, q3_, i64_w, i32_w]
                  rfl
                refine pu_ (i := 8) (N := some 25) (v := ?_) (a' := ?_) (bs 9 511) rfl rfl HT_.out (by kernel_rfl) (fun _ _ _ h => h) ⟨by rfl, ?_⟩ ?_ ?_; rotate_left; (intro w'; go_simp; with_reducible rfl); rotate_left; (simp only [Act.put, q1_, q2_, q3_, i64_w, i32_w]; rfl); refine done_ (done_of HT_.out (by kernel_rfl)) ?_
                try go_wp2
                go_roundg k1
                case measure => have := HK1.out; omega
                case rel => exact ⟨(wrap64 (x5_1 + 1)), (x250000_1), (x250001_1), (x250002_1), (x250003_1), (x250004_1), (by first | rfl | (simp; done) | (simp [*]; done)), H', ⟨by have := HK1.out; omega⟩, ⟨by (with_reducible repeat (first | apply Kd.R_alloc | apply Kd.R_drewN | apply Kd.R_drew)); exact HO_4.out⟩, ⟨by exact skp_ BK249.out⟩, ⟨by exact bel1 HB.out GE249.out⟩⟩
              rw [if_neg c12] at H; have c12b0 : ((rd l0 x5_1) == (rd t250 x5_1)) = false := beq_eq_false_iff_ne.mpr c12; have c12b1 : ((rd l0 x5_1) != (rd t250 x5_1)) = true := bne_iff_ne.mpr c12
              simp only [Option.some.injEq, Prod.mk.injEq] at H
              obtain ⟨rfl, rfl, rfl, rfl, rfl, rfl⟩ := H
              try go_wp2
              have n0_ := Aside0.mk (Kd.R_drew HO_4.out); have n1_ := Aside0.mk (blk_drew BK249.out); have n2_ := Aside0.mk (below_drew1 HB.out); clear HO_4; clear BK249; clear HB; have HO_4 := n0_; have BK249 := n1_; have HB := n2_; clear n0_ n1_ n2_; have p253 : 0 ≤ (x5_1 : Int) := of_decide_eq_true (by first | (with_reducible assumption) | assumption); have q253 : x5_1 < (l0.length : Int) := of_decide_eq_true (by first | (with_reducible assumption) | assumption); obtain ⟨ad253, e253, hx253_0⟩ := Kd.at_int HR0.out x5_1 p253 q253; have hw253_0 := hx253_0
              cases e253
              replace hx253_0 := (HB.out.cell (World.block_lt_of_cell? w _ hx253_0)).trans hx253_0; replace p253 := eq_true p253; replace q253 := eq_true q253; obtain ⟨Ao16, co16, eo16⟩ := Kd.R_slice HO_4.out
              (first | subst eo16 | (injection eo16 with f1_ f2_ f3_; have f4_ := f1_.symm; have f5_ := f3_.symm; clear f1_ f2_ f3_; subst f4_; subst f5_))
              have p254 : 0 ≤ (x5_1 : Int) := of_decide_eq_true (by first | (with_reducible assumption) | assumption); have q254 : x5_1 < (t250.length : Int) := of_decide_eq_true (by first | (with_reducible assumption) | assumption); obtain ⟨ad254, e254, hx254_0⟩ := Kd.at_int (Kd.R_reads' HO_4.out).2.2 x5_1 p254 q254
              cases e254
              replace p254 := eq_true p254; replace q254 := eq_true q254; refine start_ (n := 9) (S := fun w' => w'.cell? (ad253.add (x5_1).toNat) = some (.int .u8 (rd l0 x5_1)) ∧ w'.cell? (ad254.add (x5_1).toNat) = some (.int .u8 (rd t250 x5_1))) (ds := []) (bs 9 0) (by kernel_rfl) rfl rfl ⟨((HB.out.cell (World.block_lt_of_cell? w _ hw253_0)).trans hw253_0), hx254_0⟩ (fun hHeld => ?_); refine with_tabW stopcockref03_ParseArp.tab7 stopcockref03_ParseArp.bits7 (fun HT_ HW_ => ?_); generalize wr.drew = w15 at HO_4 BK249 HB hx253_0 hx254_0 hHeld ⊢; refine pu_ (i := 0) (N := some 17) (v := ?_) (a' := ?_) (bs 9 1) rfl rfl HT_.out (by kernel_rfl) (fun _ _ _ h => h) ⟨by rfl, ?_⟩ ?_ ?_; rotate_left; (intro w'; go_simp; with_reducible rfl); rotate_left; (simp only [Act.put, q1_, q2_, q3_, i64_w, i32_w]; rfl); refine pu_ (i := 1) (N := some 18) (v := ?_) (a' := ?_) (bs 9 3) rfl rfl HT_.out (by kernel_rfl) (fun _ _ _ h => h) ⟨by rfl, ?_⟩ ?_ ?_; rotate_left; (intro w'; go_simp; with_reducible rfl); rotate_left; (simp only [Act.put, q1_, q2_, q3_, i64_w, i32_w]; rfl); refine pu_ (i := 2) (N := some 19) (v := ?_) (a' := ?_) (bs 9 7) rfl rfl HT_.out (by kernel_rfl) (fun _ _ _ h => h) ⟨by rfl, ?_⟩ ?_ ?_; rotate_left; (intro w'; go_simp; with_reducible rfl); rotate_left; (simp only [Act.put, q1_, q2_, q3_, i64_w, i32_w]; rfl); refine pu_ (i := 4) (N := some 21) (v := ?_) (a' := ?_) (bs 9 23) rfl rfl HT_.out (by kernel_rfl) (fun _ _ _ h => h) ⟨by rfl, ?_⟩ ?_ ?_; rotate_left; (intro w'; go_simp; with_reducible rfl); rotate_left; (simp only [Act.put, q1_, q2_, q3_, i64_w, i32_w]; rfl)
              refine pu_ (i := 5) (N := some 22) (v := ?_) (a' := ?_) (bs 9 55) rfl rfl HT_.out (by kernel_rfl) (fun _ _ _ h => h) ⟨by rfl, ?_⟩ ?_ ?_; rotate_left; (intro w'; go_simp; with_reducible rfl); rotate_left; (simp only [Act.put, q1_, q2_, q3_, i64_w, i32_w]; rfl); refine pu_ (i := 6) (N := some 23) (v := ?_) (a' := ?_) (bs 9 119) rfl rfl HT_.out (by kernel_rfl) (fun _ _ _ h => h) ⟨by rfl, ?_⟩ ?_ ?_; rotate_left; (intro w'; go_simp; with_reducible rfl); rotate_left; (simp only [Act.put, q1_, q2_, q3_, i64_w, i32_w]; rfl); refine take_ (i := 3) (N := some 20) (v := ?_) (a' := ?_) (bs 9 127) rfl rfl (take_ofW HT_.out HW_.out (by kernel_rfl)) (fun _ _ _ h => h) (Or.inl ⟨by rfl, ?_⟩) hHeld ?_ ?_; rotate_left
              · rintro w' ⟨s0, s1⟩
                go_simp
                with_reducible rfl
              rotate_left
              · simp only [Act.put, q1_, q2_, q3_, i64_w, i32_w]
                rfl
              refine take_ (i := 7) (N := some 24) (v := ?_) (a' := ?_) (bs 9 255) rfl rfl (take_ofW HT_.out HW_.out (by kernel_rfl)) (fun _ _ _ h => h) (Or.inl ⟨by rfl, ?_⟩) hHeld ?_ ?_; rotate_left
              · rintro w' ⟨s0, s1⟩
                go_simp
                with_reducible rfl
              rotate_left
              · simp only [Act.put, q1_, q2_, q3_, i64_w, i32_w]
                rfl
              refine pu_ (i := 8) (N := some 25) (v := ?_) (a' := ?_) (bs 9 511) rfl rfl HT_.out (by kernel_rfl) (fun _ _ _ h => h) ⟨by rfl, ?_⟩ ?_ ?_; rotate_left; (intro w'; go_simp; with_reducible rfl); rotate_left; (simp only [Act.put, q1_, q2_, q3_, i64_w, i32_w]; rfl); refine done_ (done_of HT_.out (by kernel_rfl)) ?_; obtain ⟨hcz17_0, hcz17_1, hcz17_2, hcz17_3, hcz17_4⟩ := cz5 BK249.out; have hfz17_0 := blk_frozen BK249.out
              try go_wp2
              refine bodyPost_ret (results_ct rfl _ _ gb249 39 #[.int .i64 0, .int .u64 0, .int .u32 0, .int .u64 0, .int .u32 0] (0, 0) _ rfl (by exact put_ BK249.out rfl) Try.underlying39 rfl (by kernel_rfl)) rfl ?_; exact ⟨by first | rfl | (simp [errW_none, errW_some] <;> rfl) | (simp [*, errW_none, errW_some] <;> rfl), by exact bel1 HB.out GE249.out⟩
            rw [if_neg c11] at H; exact absurd H (by simp)
          rw [if_neg c10] at H; exact absurd H (by simp)
        rw [if_neg c9] at H; exact absurd H (by simp)
      rw [if_neg c8] at H; have c8b0 : decide (x5_1 < 7) = false := decide_eq_false c8; clear c8; have HC18 := Aside0.mk H; clear H
      go_upto_region 9 with (fail)
      go_cut [36] (fun v36 wc => ∃ (kq : Nat) (x36_17 : Bool), v36 = .bool x36_17 ∧ Aside0 (stopcockref03_ParseArp.j1 kq l0 x36_17 = some (r1, r2, r3, r4, r5, r6)) ∧ Aside0 (kq ≤ k1) ∧ Aside0 (wc.heap[gb249]? = some (.cells #[.int .i64 x250000_1, .int .u64 x250001_1, .int .u32 x250002_1, .int .u64 x250003_1, .int .u32 x250004_1] 39 (0, 0))) ∧ Aside0 (Below w.heap.size w wc))
      case first =>
        have H := HC18.out; clear HC18
        by_cases c19 : 7 < (l0.length : Int)
        · rw [if_pos c19] at H
          have c19b0 : decide (7 < (l0.length : Int)) = true := decide_eq_true c19; have c19b1 : decide (7 < l0.length) = true := decide_eq_true (by omega); clear c19
          (first | rw [c19b0] | (simp only [i64_w, i32_w]; rw [c19b0]) | skip)
          by_cases c20 : (rd l0 7) = 1
          · rw [if_pos c20] at H
            have c20b0 : ((rd l0 7) == 1) = true := beq_iff_eq.mpr c20; have c20b1 : ((rd l0 7) != 1) = false := bne_eq_false_iff_eq.mpr c20; clear c20; have H' := Aside0.mk H; clear H; have p255 : 0 ≤ (7 : Int) := (by omega); have q255 : 7 < (l0.length : Int) := of_decide_eq_true (by first | (with_reducible assumption) | assumption); obtain ⟨ad255, e255, hx255_0⟩ := Kd.at_int HR0.out 7 p255 q255
            cases e255
            (try simp only [show (7 : Int).toNat = 7 from rfl, Nat.reduceMul, Nat.reduceEqDiff, Go.Addr.add, ↓reduceIte] at hx255_0)
            have qi255 : (7 < l0.length) = True := eq_true (by omega)
            (try rw [show ((7 : Int)).toNat = 7 from rfl] at hx255_0)
            replace hx255_0 := (HB.out.cell (World.block_lt_of_cell? w _ hx255_0)).trans hx255_0; replace p255 := eq_true p255; replace q255 := eq_true q255
            go_wp2
            go_meet
            case rel => exact ⟨_, (false), (by first | rfl | (simp; done) | (simp [*]; done)), H', ⟨by have := HK1.out; first | omega | exact Nat.le_refl _⟩, ⟨by exact skp_ BK249.out⟩, ⟨by exact bel1 HB.out GE249.out⟩⟩
          rw [if_neg c20] at H; have c20b0 : ((rd l0 7) == 1) = false := beq_eq_false_iff_ne.mpr c20; have c20b1 : ((rd l0 7) != 1) = true := bne_iff_ne.mpr c20; have H' := Aside0.mk H; clear H; have p255 : 0 ≤ (7 : Int) := (by omega); have q255 : 7 < (l0.length : Int) := of_decide_eq_true (by first | (with_reducible assumption) | assumption); obtain ⟨ad255, e255, hx255_0⟩ := Kd.at_int HR0.out 7 p255 q255
          cases e255
          (try simp only [show (7 : Int).toNat = 7 from rfl, Nat.reduceMul, Nat.reduceEqDiff, Go.Addr.add, ↓reduceIte] at hx255_0)
          have qi255 : (7 < l0.length) = True := eq_true (by omega)
          (try rw [show ((7 : Int)).toNat = 7 from rfl] at hx255_0)
          replace hx255_0 := (HB.out.cell (World.block_lt_of_cell? w _ hx255_0)).trans hx255_0; replace p255 := eq_true p255; replace q255 := eq_true q255; have p256 : 0 ≤ (7 : Int) := (by omega); have q256 : 7 < (l0.length : Int) := of_decide_eq_true (by first | (with_reducible assumption) | assumption); obtain ⟨ad256, e256, hx256_0⟩ := Kd.at_int HR0.out 7 p256 q256; obtain rfl : ad255 = ad256 := (by injection e256)
          (try simp only [show (7 : Int).toNat = 7 from rfl, Nat.reduceMul, Nat.reduceEqDiff, Go.Addr.add, ↓reduceIte] at hx256_0)
          have qi256 : (7 < l0.length) = True := eq_true (by omega)
          (try rw [show ((7 : Int)).toNat = 7 from rfl] at hx256_0)
          replace hx256_0 := (HB.out.cell (World.block_lt_of_cell? w _ hx256_0)).trans hx256_0; replace p256 := eq_true p256; replace q256 := eq_true q256
          go_wp2
          go_meet
          case rel => exact ⟨_, (((rd l0 7) != 2)), (by first | rfl | (simp; done) | (simp [*]; done)), H', ⟨by have := HK1.out; first | omega | exact Nat.le_refl _⟩, ⟨by exact skp_ BK249.out⟩, ⟨by exact bel1 HB.out GE249.out⟩⟩
        rw [if_neg c19] at H; exact absurd H (by simp)
      case rest =>
        clear HC18
        try clear c1
        try clear c2
        try clear c2b0
        try clear c2b1
        try clear p2
        try clear q2
        try clear hx2
        try clear qi2
        try clear p6
        try clear c8
        try clear c8b0
        try clear c9
        try clear c9b0
        try clear c10
        try clear c10b0
        try clear c11
        try clear c11b0
        try clear c12
        try clear c12b0
        try clear c12b1
        try clear c18
        try clear c19
        try clear c19b0
        try clear c19b1
        try clear c20
        try clear c20b0
        try clear c20b1
        try clear hcz17_0
        try clear hcz17_1
        try clear hcz17_2
        try clear hcz17_3
        try clear hcz17_4
        try clear hcz4_0
        try clear hcz4_1
        try clear hcz4_2
        try clear hcz4_3
        try clear hcz4_4
        try clear hfz17_0
        try clear hfz17_1
        try clear hfz17_2
        try clear hfz17_3
        try clear hfz17_4
        try clear hfz4_0
        try clear hfz4_1
        try clear hfz4_2
        try clear hfz4_3
        try clear hfz4_4
        try clear hx253_0
        try clear hx254_0
        try clear hx255_0
        try clear hx256_0
        try clear p2
        try clear p253
        try clear p254
        try clear p255
        try clear p256
        try clear q253
        try clear q254
        try clear q255
        try clear q256
        obtain ⟨kq, x36_17, rfl, HA, HJ17, BK249, HB⟩ := hcut
        cases kq with
        | zero => exact absurd HA.out (by simp [stopcockref03_ParseArp.j1])
        | succ kj17 =>
          have H := HA.out; clear HA
          simp only [stopcockref03_ParseArp.j1] at H
          by_cases c21 : x36_17 = true
          · subst c21
            have H1 : (some (0, 0, 0, 0, 0, 31)) = some (r1, r2, r3, r4, r5, r6) := by rw [if_pos rfl] at H; exact H
            clear H; have H := H1; clear H1
            simp only [Option.some.injEq, Prod.mk.injEq] at H
            obtain ⟨rfl, rfl, rfl, rfl, rfl, rfl⟩ := H; obtain ⟨hcz22_0, hcz22_1, hcz22_2, hcz22_3, hcz22_4⟩ := cz5 BK249.out; have hfz22_0 := blk_frozen BK249.out
            go_wp2
            refine bodyPost_ret (results_ct rfl _ _ gb249 39 #[.int .i64 0, .int .u64 0, .int .u32 0, .int .u64 0, .int .u32 0] (0, 0) _ rfl (by exact put_ BK249.out rfl) Try.underlying39 rfl (by kernel_rfl)) rfl ?_; exact ⟨by first | rfl | (simp [errW_none, errW_some] <;> rfl) | (simp [*, errW_none, errW_some] <;> rfl), by exact bel1 HB.out GE249.out⟩
          replace c21 := Bool.eq_false_iff.mpr c21
          subst c21
          have H1 : (if 14 ≤ 18 then (if 18 ≤ (l0.length : Int) then ((stopcockref01_Number.f kj17 ((l0.take 18).drop 14)).bind fun t258 => (if 24 ≤ 28 then (if 28 ≤ (l0.length : Int) then ((stopcockref01_Number.f kj17 ((l0.take 28).drop 24)).bind fun t260 => (if 7 < (l0.length : Int) then (if 8 ≤ 14 then (if 14 ≤ (l0.length : Int) then ((stopcockref01_Number.f kj17 ((l0.take 14).drop 8)).bind fun t263 => (if 18 ≤ 24 then (if 24 ≤ (l0.length : Int) then ((stopcockref01_Number.f kj17 ((l0.take 24).drop 18)).bind fun t265 => (some (wrap64 (rd l0 7), t263, (t258) % 4294967296, t265, (t260) % 4294967296, 0))) else (none)) else (none))) else (none)) else (none)) else (none))) else (none)) else (none))) else (none)) else (none)) = some (r1, r2, r3, r4, r5, r6) := by rw [if_neg (show ¬ (false = true) by decide)] at H; exact H
          clear H; have H := H1; clear H1
          by_cases c23 : 14 ≤ 18
          · rw [if_pos c23] at H
            have c23b0 := eq_true c23; have c23b1 : decide (14 ≤ 18) = true := decide_eq_true c23; clear c23
            by_cases c24 : 18 ≤ (l0.length : Int)
            · rw [if_pos c24] at H
              have c24b0 := eq_true c24; have c24b1 : decide (18 ≤ (l0.length : Int)) = true := decide_eq_true c24; clear c24; replace H := Option.bind_eq_some_iff.mp H; obtain ⟨t258, A250, H⟩ := H; replace H : (if 24 ≤ 28 then (if 28 ≤ (l0.length : Int) then ((stopcockref01_Number.f kj17 ((l0.take 28).drop 24)).bind fun t260 => (if 7 < (l0.length : Int) then (if 8 ≤ 14 then (if 14 ≤ (l0.length : Int) then ((stopcockref01_Number.f kj17 ((l0.take 14).drop 8)).bind fun t263 => (if 18 ≤ 24 then (if 24 ≤ (l0.length : Int) then ((stopcockref01_Number.f kj17 ((l0.take 24).drop 18)).bind fun t265 => (some (wrap64 (rd l0 7), t263, (t258) % 4294967296, t265, (t260) % 4294967296, 0))) else (none)) else (none))) else (none)) else (none)) else (none))) else (none)) else (none)) = some (r1, r2, r3, r4, r5, r6) := H; have A25 := Aside0.mk A250; clear A250
              by_cases c26 : 24 ≤ 28
              · rw [if_pos c26] at H
                have c26b0 := eq_true c26; have c26b1 : decide (24 ≤ 28) = true := decide_eq_true c26; clear c26
                by_cases c27 : 28 ≤ (l0.length : Int)
                · rw [if_pos c27] at H
                  have c27b0 := eq_true c27; have c27b1 : decide (28 ≤ (l0.length : Int)) = true := decide_eq_true c27; clear c27; replace H := Option.bind_eq_some_iff.mp H; obtain ⟨t260, A280, H⟩ := H; replace H : (if 7 < (l0.length : Int) then (if 8 ≤ 14 then (if 14 ≤ (l0.length : Int) then ((stopcockref01_Number.f kj17 ((l0.take 14).drop 8)).bind fun t263 => (if 18 ≤ 24 then (if 24 ≤ (l0.length : Int) then ((stopcockref01_Number.f kj17 ((l0.take 24).drop 18)).bind fun t265 => (some (wrap64 (rd l0 7), t263, (t258) % 4294967296, t265, (t260) % 4294967296, 0))) else (none)) else (none))) else (none)) else (none)) else (none)) = some (r1, r2, r3, r4, r5, r6) := H; have A28 := Aside0.mk A280; clear A280
                  by_cases c29 : 7 < (l0.length : Int)
                  · rw [if_pos c29] at H
                    have c29b0 : decide (7 < (l0.length : Int)) = true := decide_eq_true c29; have c29b1 : decide (7 < l0.length) = true := decide_eq_true (by omega); clear c29
                    by_cases c30 : 8 ≤ 14
                    · rw [if_pos c30] at H
                      have c30b0 := eq_true c30; have c30b1 : decide (8 ≤ 14) = true := decide_eq_true c30; clear c30
                      by_cases c31 : 14 ≤ (l0.length : Int)
                      · rw [if_pos c31] at H
                        have c31b0 := eq_true c31; have c31b1 : decide (14 ≤ (l0.length : Int)) = true := decide_eq_true c31; clear c31; replace H := Option.bind_eq_some_iff.mp H; obtain ⟨t263, A320, H⟩ := H; replace H : (if 18 ≤ 24 then (if 24 ≤ (l0.length : Int) then ((stopcockref01_Number.f kj17 ((l0.take 24).drop 18)).bind fun t265 => (some (wrap64 (rd l0 7), t263, (t258) % 4294967296, t265, (t260) % 4294967296, 0))) else (none)) else (none)) = some (r1, r2, r3, r4, r5, r6) := H; have A32 := Aside0.mk A320; clear A320
                        by_cases c33 : 18 ≤ 24
                        · rw [if_pos c33] at H
                          have c33b0 := eq_true c33; have c33b1 : decide (18 ≤ 24) = true := decide_eq_true c33; clear c33
                          by_cases c34 : 24 ≤ (l0.length : Int)
                          · rw [if_pos c34] at H
                            have c34b0 := eq_true c34; have c34b1 : decide (24 ≤ (l0.length : Int)) = true := decide_eq_true c34; clear c34; replace H := Option.bind_eq_some_iff.mp H; obtain ⟨t265, A350, H⟩ := H; replace H : (some (wrap64 (rd l0 7), t263, (t258) % 4294967296, t265, (t260) % 4294967296, 0)) = some (r1, r2, r3, r4, r5, r6) := H; have A35 := Aside0.mk A350; clear A350
                            simp only [Option.some.injEq, Prod.mk.injEq] at H
                            obtain ⟨rfl, rfl, rfl, rfl, rfl, rfl⟩ := H; obtain ⟨i036, hi036, _, hsz36, _⟩ := info_parts info5; obtain ⟨A36, hcut36, hA36, hC36⟩ := print_mid_of (P := Try.prog) (Value.int .u8) 0 23 5 .i64 .i64 Try.underlying23 hi036 hsz36 A0 c0 l0 14 18 (by omega) (by first | omega | exact of_decide_eq_true (by first | (with_reducible assumption) | assumption)) (of_decide_eq_true (by first | (with_reducible assumption) | assumption)) HC0.out; have HR257 := Aside0.mk (Kd.C_of_reads (h1 := fun _ => rfl) (hA36 _ (Kd.reads_of_C HR0.out))); have HC257 := Aside0.mk hC36; clear hA36 hC36 hi036 hsz36
                            try go_wp2_with (first | ((with_reducible refine gate_callee (f := 25) rfl ?_); refine goesL_ (some 40) rfl rfl Try.func25 (by kernel_rfl) rfl #[.slice A36 ((l0.take 18).drop 14).length (c0 - 14)] rfl (by (try simp only [List.map_toArray, List.map_cons, List.map_nil]); first | done | (rw [show ((l0.take 18).drop 14).length = (18 - 14) from (by rw [List.length_drop, List.length_take]; have h_ : (18 : Int) ≤ (l0.length : Int) := of_decide_eq_true (by first | (with_reducible assumption) | assumption); omega)] <;> rfl) | rfl | (simp only [List.length_drop, List.length_take]; rfl)) ?_; (with_reducible refine (stopcockref01_Number.calls kj17 _ _ ((l0.take 18).drop 14) t258 _ ?side1 ?side2 A25.out).mono ?_); (case side1 => repeat (first | exact (Kd.C_below HR257.out HB.out) | (with_reducible refine Kd.C_alloc ?_ _) | (with_reducible refine Kd.C_drewN ?_ _) | (with_reducible refine Kd.C_drew ?_))); (case side2 => exact HC257.out); rintro e w' ⟨rfl, ⟨nd, rfl⟩⟩; refine ⟨_, rfl, ?_⟩; (try (rw [drewN_self wc]; generalize hq_ : World.drewN wc _ = wc; have n0_ : Aside0 (wc.heap[gb249]? = some (.cells #[.int .i64 x250000_1, .int .u64 x250001_1, .int .u32 x250002_1, .int .u64 x250003_1, .int .u32 x250004_1] 39 (0, 0))) := ⟨by rw [← hq_]; exact (skp_ BK249.out)⟩; have n1_ : Aside0 (Below w.heap.size w wc) := ⟨by rw [← hq_]; exact (bel1 HB.out GE249.out)⟩; clear BK249 HB hq_; have BK249 := n0_; have HB := n1_; clear n0_ n1_)); obtain ⟨i037, hi037, _, hsz37, _⟩ := info_parts info5; obtain ⟨A37, hcut37, hA37, hC37⟩ := print_mid_of (P := Try.prog) (Value.int .u8) 0 23 5 .i64 .i64 Try.underlying23 hi037 hsz37 A0 c0 l0 24 28 (by omega) (by first | omega | exact of_decide_eq_true (by first | (with_reducible assumption) | assumption)) (of_decide_eq_true (by first | (with_reducible assumption) | assumption)) HC0.out; have HR259 := Aside0.mk (Kd.C_of_reads (h1 := fun _ => rfl) (hA37 _ (Kd.reads_of_C HR0.out))); have HC259 := Aside0.mk hC37; clear hA37 hC37 hi037 hsz37) | ((with_reducible refine gate_callee (f := 25) rfl ?_); refine goesL_ (some 43) rfl rfl Try.func25 (by kernel_rfl) rfl #[.slice A37 ((l0.take 28).drop 24).length (c0 - 24)] rfl (by (try simp only [List.map_toArray, List.map_cons, List.map_nil]); first | done | (rw [show ((l0.take 28).drop 24).length = (28 - 24) from (by rw [List.length_drop, List.length_take]; have h_ : (28 : Int) ≤ (l0.length : Int) := of_decide_eq_true (by first | (with_reducible assumption) | assumption); omega)] <;> rfl) | rfl | (simp only [List.length_drop, List.length_take]; rfl)) ?_; (with_reducible refine (stopcockref01_Number.calls kj17 _ _ ((l0.take 28).drop 24) t260 _ ?side1 ?side2 A28.out).mono ?_); (case side1 => repeat (first | exact (Kd.C_below HR259.out HB.out) | (with_reducible refine Kd.C_alloc ?_ _) | (with_reducible refine Kd.C_drewN ?_ _) | (with_reducible refine Kd.C_drew ?_))); (case side2 => exact HC259.out); rintro e w' ⟨rfl, ⟨nd, rfl⟩⟩; refine ⟨_, rfl, ?_⟩; (try (rw [drewN_self wc]; generalize hq_ : World.drewN wc _ = wc; have n0_ : Aside0 (wc.heap[gb249]? = some (.cells #[.int .i64 x250000_1, .int .u64 x250001_1, .int .u32 x250002_1, .int .u64 x250003_1, .int .u32 x250004_1] 39 (0, 0))) := ⟨by rw [← hq_]; exact (skp_ BK249.out)⟩; have n1_ : Aside0 (Below w.heap.size w wc) := ⟨by rw [← hq_]; exact (bel1 HB.out GE249.out)⟩; clear BK249 HB hq_; have BK249 := n0_; have HB := n1_; clear n0_ n1_))))
                            have n0_ := Aside0.mk (blk_drew BK249.out); have n1_ := Aside0.mk (below_drew1 HB.out); clear BK249; clear HB; have BK249 := n0_; have HB := n1_; clear n0_ n1_; have p261 : 0 ≤ (7 : Int) := (by omega); have q261 : 7 < (l0.length : Int) := of_decide_eq_true (by first | (with_reducible assumption) | assumption); obtain ⟨ad261, e261, hx261_0⟩ := Kd.at_int HR0.out 7 p261 q261; have hw261_0 := hx261_0
                            (try rw [show ((7 : Int)).toNat = 7 from rfl] at hw261_0)
                            (try rw [show 7 * 1 = 7 from rfl] at hw261_0)
                            (try simp only [Nat.reduceMul, Nat.reduceEqDiff, Go.Addr.add, ↓reduceIte] at hw261_0)
                            cases e261
                            (try simp only [show (7 : Int).toNat = 7 from rfl, Nat.reduceMul, Nat.reduceEqDiff, Go.Addr.add, ↓reduceIte] at hx261_0)
                            have qi261 : (7 < l0.length) = True := eq_true (by omega)
                            (try rw [show ((7 : Int)).toNat = 7 from rfl] at hx261_0)
                            replace hx261_0 := (HB.out.cell (World.block_lt_of_cell? w _ hx261_0)).trans hx261_0; replace p261 := eq_true p261; replace q261 := eq_true q261; obtain ⟨i039, hi039, _, hsz39, _⟩ := info_parts info5; obtain ⟨A39, hcut39, hA39, hC39⟩ := print_mid_of (P := Try.prog) (Value.int .u8) 0 23 5 .i64 .i64 Try.underlying23 hi039 hsz39 (some ad261) c0 l0 8 14 (by omega) (by first | omega | exact of_decide_eq_true (by first | (with_reducible assumption) | assumption)) (of_decide_eq_true (by first | (with_reducible assumption) | assumption)) HC0.out; have HR262 := Aside0.mk (Kd.C_of_reads (h1 := fun _ => rfl) (hA39 _ (Kd.reads_of_C HR0.out))); have HC262 := Aside0.mk hC39; clear hA39 hC39 hi039 hsz39; obtain ⟨i040, hi040, _, hsz40, _⟩ := info_parts info5; obtain ⟨A40, hcut40, hA40, hC40⟩ := print_mid_of (P := Try.prog) (Value.int .u8) 0 23 5 .i64 .i64 Try.underlying23 hi040 hsz40 (some ad261) c0 l0 18 24 (by omega) (by first | omega | exact of_decide_eq_true (by first | (with_reducible assumption) | assumption)) (of_decide_eq_true (by first | (with_reducible assumption) | assumption)) HC0.out; have HR264 := Aside0.mk (Kd.C_of_reads (h1 := fun _ => rfl) (hA40 _ (Kd.reads_of_C HR0.out))); have HC264 := Aside0.mk hC40; clear hA40 hC40 hi040 hsz40; refine start_ (n := 17) (S := fun w' => w'.cell? ⟨ad261.block, ad261.off + 7, none⟩ = some (.int .u8 (rd l0 7))) (ds := []) (bs 17 0) (by kernel_rfl) rfl rfl (((HB.out.cell (World.block_lt_of_cell? w _ hw261_0)).trans hw261_0)) (fun hHeld => ?_); refine with_tabW stopcockref03_ParseArp.tab13 stopcockref03_ParseArp.bits13 (fun HT_ HW_ => ?_)
                            generalize wc.drew = w38 at BK249 HB HR262 HR264 hx261_0 hHeld ⊢; refine pu_ (i := 0) (N := some 44) (v := ?_) (a' := ?_) (bs 17 1) rfl rfl HT_.out (by kernel_rfl) (fun _ _ _ h => h) ⟨by rfl, ?_⟩ ?_ ?_; rotate_left; (intro w'; go_simp; with_reducible rfl); rotate_left; (simp only [Act.put, q1_, q2_, q3_, i64_w, i32_w]; rfl); refine pu_ (i := 1) (N := some 45) (v := ?_) (a' := ?_) (bs 17 3) rfl rfl HT_.out (by kernel_rfl) (fun _ _ _ h => h) ⟨by rfl, ?_⟩ ?_ ?_; rotate_left; (intro w'; go_simp; with_reducible rfl); rotate_left; (simp only [Act.put, q1_, q2_, q3_, i64_w, i32_w]; rfl); refine pu_ (i := 4) (N := some 48) (v := ?_) (a' := ?_) (bs 17 19) rfl rfl HT_.out (by kernel_rfl) (fun _ _ _ h => h) ⟨by rfl, ?_⟩ ?_ ?_; rotate_left; (intro w'; go_simp; with_reducible rfl); rotate_left; (simp only [Act.put, q1_, q2_, q3_, i64_w, i32_w]; rfl); refine pu_ (i := 5) (N := some 49) (v := ?_) (a' := ?_) (bs 17 51) rfl rfl HT_.out (by kernel_rfl) (fun _ _ _ h => h) ⟨by rfl, ?_⟩ ?_ ?_; rotate_left; (intro w'; go_simp; with_reducible rfl); rotate_left; (simp only [Act.put, q1_, q2_, q3_, i64_w, i32_w]; rfl); refine pu_ (i := 7) (N := some 51) (v := ?_) (a' := ?_) (bs 17 179) rfl rfl HT_.out (by kernel_rfl) (fun _ _ _ h => h) ⟨by rfl, ?_⟩ ?_ ?_; rotate_left; (intro w'; go_simp; with_reducible rfl); rotate_left; (simp only [Act.put, q1_, q2_, q3_, i64_w, i32_w]; rfl); refine pu_ (i := 8) (N := some 52) (v := ?_) (a' := ?_) (bs 17 435) rfl rfl HT_.out (by kernel_rfl) (fun _ _ _ h => h) ⟨by rfl, ?_⟩ ?_ ?_; rotate_left; (intro w'; go_simp; with_reducible rfl); rotate_left; (simp only [Act.put, q1_, q2_, q3_, i64_w, i32_w]; rfl)
                            refine pu_ (i := 9) (N := some 53) (v := ?_) (a' := ?_) (bs 17 947) rfl rfl HT_.out (by kernel_rfl) (fun _ _ _ h => h) ⟨by rfl, ?_⟩ ?_ ?_; rotate_left; (intro w'; go_simp; with_reducible rfl); rotate_left; (simp only [Act.put, q1_, q2_, q3_, i64_w, i32_w]; rfl); refine pu_ (i := 10) (N := some 54) (v := ?_) (a' := ?_) (bs 17 1971) rfl rfl HT_.out (by kernel_rfl) (fun _ _ _ h => h) ⟨by rfl, ?_⟩ ?_ ?_; rotate_left; (intro w'; go_simp; with_reducible rfl); rotate_left; (simp only [Act.put, q1_, q2_, q3_, i64_w, i32_w]; rfl); refine pu_ (i := 12) (N := some 56) (v := ?_) (a' := ?_) (bs 17 6067) rfl rfl HT_.out (by kernel_rfl) (fun _ _ _ h => h) ⟨by rfl, ?_⟩ ?_ ?_; rotate_left; (intro w'; go_simp; with_reducible rfl); rotate_left; (simp only [Act.put, q1_, q2_, q3_, i64_w, i32_w]; rfl); refine pu_ (i := 13) (N := some 57) (v := ?_) (a' := ?_) (bs 17 14259) rfl rfl HT_.out (by kernel_rfl) (fun _ _ _ h => h) ⟨by rfl, ?_⟩ ?_ ?_; rotate_left; (intro w'; go_simp; with_reducible rfl); rotate_left; (simp only [Act.put, q1_, q2_, q3_, i64_w, i32_w]; rfl); refine take_ (i := 2) (N := some 46) (v := ?_) (a' := ?_) (bs 17 14263) rfl rfl (take_ofW HT_.out HW_.out (by kernel_rfl)) (fun _ _ _ h => h) (Or.inl ⟨by rfl, ?_⟩) hHeld ?_ ?_; rotate_left
                            · intro w' s0
                              go_simp
                              with_reducible rfl
                            rotate_left
                            · simp only [Act.put, q1_, q2_, q3_, i64_w, i32_w]
                              rfl
                            refine pu_ (i := 3) (N := some 47) (v := ?_) (a' := ?_) (bs 17 14271) rfl rfl HT_.out (by kernel_rfl) (fun _ _ _ h => h) ⟨by rfl, ?_⟩ ?_ ?_; rotate_left; (intro w'; go_simp; with_reducible rfl); rotate_left; (simp only [Act.put, q1_, q2_, q3_, i64_w, i32_w]; rfl); refine one_ (i := 6) (N := some 50) (bs 17 14335) rfl rfl (one_of HT_.out (by kernel_rfl)) (by decide) (fun K hK => ?_); refine goes_ Try.func25 (by kernel_rfl) rfl #[.slice A39 ((l0.take 14).drop 8).length (c0 - 8)] (by rfl) rfl rfl (by (try simp only [List.map_toArray, List.map_cons, List.map_nil]); first | done | (rw [show ((l0.take 14).drop 8).length = (14 - 8) from (by rw [List.length_drop, List.length_take]; have h_ : (14 : Int) ≤ (l0.length : Int) := of_decide_eq_true (by first | (with_reducible assumption) | assumption); omega)] <;> rfl) | rfl | (simp only [List.length_drop, List.length_take]; rfl)) ?_
                            with_reducible refine (stopcockref01_Number.calls kj17 _ _ ((l0.take 14).drop 8) t263 _ ?side1 ?side2 A32.out).mono ?_
                            (case side1 => repeat (first | exact (Kd.C_below HR262.out HB.out) | (with_reducible refine Kd.C_alloc ?_ _) | (with_reducible refine Kd.C_drewN ?_ _) | (with_reducible refine Kd.C_drew ?_)))
                            (case side2 => exact HC262.out)
                            rintro e w' ⟨rfl, ⟨nd, rfl⟩⟩
                            refine ⟨_, rfl, ?_⟩; refine hK.out _ _ (((HB.out.cell (World.block_lt_of_cell? w _ hw261_0)).trans hw261_0)) (fun hHeld => ?_); clear hK K; refine norm_ (a' := ?_) ?_ ?_; rotate_left
                            · show Act.put _ (some 50) _ = _
                              simp only [Act.put, q1_, q2_, q3_, i64_w, i32_w]
                              rfl
                            refine one_ (i := 11) (N := some 55) (bs 17 16383) rfl rfl (one_of HT_.out (by kernel_rfl)) (by decide) (fun K hK => ?_); refine goes_ Try.func25 (by kernel_rfl) rfl #[.slice A40 ((l0.take 24).drop 18).length (c0 - 18)] (by rfl) rfl rfl (by (try simp only [List.map_toArray, List.map_cons, List.map_nil]); first | done | (rw [show ((l0.take 24).drop 18).length = (24 - 18) from (by rw [List.length_drop, List.length_take]; have h_ : (24 : Int) ≤ (l0.length : Int) := of_decide_eq_true (by first | (with_reducible assumption) | assumption); omega)] <;> rfl) | rfl | (simp only [List.length_drop, List.length_take]; rfl)) ?_
                            with_reducible refine (stopcockref01_Number.calls kj17 _ _ ((l0.take 24).drop 18) t265 _ ?side1 ?side2 A35.out).mono ?_
                            (case side1 => repeat (first | exact (Kd.C_below HR264.out (bel1 HB.out GE249.out)) | (with_reducible refine Kd.C_alloc ?_ _) | (with_reducible refine Kd.C_drewN ?_ _) | (with_reducible refine Kd.C_drew ?_)))
                            (case side2 => exact HC264.out)
                            rintro e w' ⟨rfl, ⟨nd, rfl⟩⟩
                            refine ⟨_, rfl, ?_⟩; refine hK.out _ _ (((HB.out.cell (World.block_lt_of_cell? w _ hw261_0)).trans hw261_0)) (fun hHeld => ?_); clear hK K; refine norm_ (a' := ?_) ?_ ?_; rotate_left
                            · show Act.put _ (some 55) _ = _
                              simp only [Act.put, q1_, q2_, q3_, i64_w, i32_w]
                              rfl
                            refine pu_ (i := 14) (N := some 58) (v := ?_) (a' := ?_) (bs 17 32767) rfl rfl HT_.out (by kernel_rfl) (fun _ _ _ h => h) ⟨by rfl, ?_⟩ ?_ ?_; rotate_left; (intro w'; go_simp; with_reducible rfl); rotate_left; (simp only [Act.put, q1_, q2_, q3_, i64_w, i32_w]; rfl); refine one_ (i := 15) (N := none) (bs 17 65535) rfl rfl (one_of HT_.out (by kernel_rfl)) (by decide) (fun K hK => ?_); have hs41 : w38.cell? ⟨gb249, 0, none⟩ = some (.int .i64 x250000_1) := (blk_cell BK249.out 0).trans rfl; have hfs41 := blk_frozen BK249.out 0; have hs42 : w38.cell? ⟨gb249, 1, none⟩ = some (.int .u64 x250001_1) := (blk_cell BK249.out 1).trans rfl; have hfs42 := blk_frozen BK249.out 1; have hs43 : w38.cell? ⟨gb249, 2, none⟩ = some (.int .u32 x250002_1) := (blk_cell BK249.out 2).trans rfl; have hfs43 := blk_frozen BK249.out 2; have hs44 : w38.cell? ⟨gb249, 3, none⟩ = some (.int .u64 x250003_1) := (blk_cell BK249.out 3).trans rfl; have hfs44 := blk_frozen BK249.out 3; have hs45 : w38.cell? ⟨gb249, 4, none⟩ = some (.int .u32 x250004_1) := (blk_cell BK249.out 4).trans rfl; have hfs45 := blk_frozen BK249.out 4; refine skip_ (w1 := ?_) (by rfl) rfl ?_ ?_; rotate_left
                            · go_simp
                              rfl
                            refine hK.out _ _ (((cell_far (p := ⟨gb249, _, none⟩) (by first | exact Nat.ne_of_lt (Nat.lt_of_lt_of_le (by have := World.block_lt_of_cell? _ _ hw261_0; first | rwa [add_block] at this | exact this) GW249.out) | (rw [add_block]; exact Nat.ne_of_lt (Nat.lt_of_lt_of_le (by have := World.block_lt_of_cell? _ _ hw261_0; first | rwa [add_block] at this | exact this) GW249.out)) | (show (Addr.add _ _).block ≠ _; rw [add_block]; exact Nat.ne_of_lt (Nat.lt_of_lt_of_le (by have := World.block_lt_of_cell? _ _ hw261_0; first | rwa [add_block] at this | exact this) GW249.out)) | (dsimp only; exact Nat.ne_of_lt (Nat.lt_of_lt_of_le (by have := World.block_lt_of_cell? _ _ hw261_0; first | rwa [add_block] at this | exact this) GW249.out))) _).trans (((cell_far (p := ⟨gb249, _, none⟩) (by first | exact Nat.ne_of_lt (Nat.lt_of_lt_of_le (by have := World.block_lt_of_cell? _ _ hw261_0; first | rwa [add_block] at this | exact this) GW249.out) | (rw [add_block]; exact Nat.ne_of_lt (Nat.lt_of_lt_of_le (by have := World.block_lt_of_cell? _ _ hw261_0; first | rwa [add_block] at this | exact this) GW249.out)) | (show (Addr.add _ _).block ≠ _; rw [add_block]; exact Nat.ne_of_lt (Nat.lt_of_lt_of_le (by have := World.block_lt_of_cell? _ _ hw261_0; first | rwa [add_block] at this | exact this) GW249.out)) | (dsimp only; exact Nat.ne_of_lt (Nat.lt_of_lt_of_le (by have := World.block_lt_of_cell? _ _ hw261_0; first | rwa [add_block] at this | exact this) GW249.out))) _).trans (((cell_far (p := ⟨gb249, _, none⟩) (by first | exact Nat.ne_of_lt (Nat.lt_of_lt_of_le (by have := World.block_lt_of_cell? _ _ hw261_0; first | rwa [add_block] at this | exact this) GW249.out) | (rw [add_block]; exact Nat.ne_of_lt (Nat.lt_of_lt_of_le (by have := World.block_lt_of_cell? _ _ hw261_0; first | rwa [add_block] at this | exact this) GW249.out)) | (show (Addr.add _ _).block ≠ _; rw [add_block]; exact Nat.ne_of_lt (Nat.lt_of_lt_of_le (by have := World.block_lt_of_cell? _ _ hw261_0; first | rwa [add_block] at this | exact this) GW249.out)) | (dsimp only; exact Nat.ne_of_lt (Nat.lt_of_lt_of_le (by have := World.block_lt_of_cell? _ _ hw261_0; first | rwa [add_block] at this | exact this) GW249.out))) _).trans (((cell_far (p := ⟨gb249, _, none⟩) (by first | exact Nat.ne_of_lt (Nat.lt_of_lt_of_le (by have := World.block_lt_of_cell? _ _ hw261_0; first | rwa [add_block] at this | exact this) GW249.out) | (rw [add_block]; exact Nat.ne_of_lt (Nat.lt_of_lt_of_le (by have := World.block_lt_of_cell? _ _ hw261_0; first | rwa [add_block] at this | exact this) GW249.out)) | (show (Addr.add _ _).block ≠ _; rw [add_block]; exact Nat.ne_of_lt (Nat.lt_of_lt_of_le (by have := World.block_lt_of_cell? _ _ hw261_0; first | rwa [add_block] at this | exact this) GW249.out)) | (dsimp only; exact Nat.ne_of_lt (Nat.lt_of_lt_of_le (by have := World.block_lt_of_cell? _ _ hw261_0; first | rwa [add_block] at this | exact this) GW249.out))) _).trans (((cell_far (p := ⟨gb249, _, none⟩) (by first | exact Nat.ne_of_lt (Nat.lt_of_lt_of_le (by have := World.block_lt_of_cell? _ _ hw261_0; first | rwa [add_block] at this | exact this) GW249.out) | (rw [add_block]; exact Nat.ne_of_lt (Nat.lt_of_lt_of_le (by have := World.block_lt_of_cell? _ _ hw261_0; first | rwa [add_block] at this | exact this) GW249.out)) | (show (Addr.add _ _).block ≠ _; rw [add_block]; exact Nat.ne_of_lt (Nat.lt_of_lt_of_le (by have := World.block_lt_of_cell? _ _ hw261_0; first | rwa [add_block] at this | exact this) GW249.out)) | (dsimp only; exact Nat.ne_of_lt (Nat.lt_of_lt_of_le (by have := World.block_lt_of_cell? _ _ hw261_0; first | rwa [add_block] at this | exact this) GW249.out))) _).trans (hHeld))))))))))) (fun hHeld => ?_)
                            clear hK K; refine pu_ (i := 16) (N := some 3) (v := ?_) (a' := ?_) (bs 17 131071) rfl rfl HT_.out (by kernel_rfl) (fun _ _ _ h => h) ⟨by rfl, ?_⟩ ?_ ?_; rotate_left; (intro w'; go_simp; with_reducible rfl); rotate_left; (simp only [Act.put, q1_, q2_, q3_, i64_w, i32_w]; rfl); refine done_ (done_of HT_.out (by kernel_rfl)) ?_
                            try go_wp2
                            refine bodyPost_ret (results_ct rfl _ _ gb249 39 #[.int .i64 (wrap64 (rd l0 7)), .int .u64 t263, .int .u32 ((t258) % 4294967296), .int .u64 t265, .int .u32 ((t260) % 4294967296)] (0, 0) _ rfl (by exact put_ BK249.out rfl) Try.underlying39 rfl (by kernel_rfl)) rfl ?_; exact ⟨by first | rfl | (simp [errW_none, errW_some] <;> rfl) | (simp [*, errW_none, errW_some] <;> rfl), by exact bel1 HB.out GE249.out⟩
                          rw [if_neg c34] at H; exact absurd H (by simp)
                        rw [if_neg c33] at H; exact absurd H (by simp)
                      rw [if_neg c31] at H; exact absurd H (by simp)
                    rw [if_neg c30] at H; exact absurd H (by simp)
                  rw [if_neg c29] at H; exact absurd H (by simp)
                rw [if_neg c27] at H; exact absurd H (by simp)
              rw [if_neg c26] at H; exact absurd H (by simp)
            rw [if_neg c24] at H; exact absurd H (by simp)
          rw [if_neg c23] at H; exact absurd H (by simp)

end Go.Proofs.Ythfhljdegbcpmaa.PA
