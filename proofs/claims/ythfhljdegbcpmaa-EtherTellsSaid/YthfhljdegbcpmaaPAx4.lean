-- Written by a program of this session (wip/tools/mkprint.py, mp.sh) for this claim.
import Derived.Test.YthfhljdegbcpmaaPAx0
import Derived.Test.YthfhljdegbcpmaaPAx3
namespace Go.Proofs.Ythfhljdegbcpmaa.PA
open Go.RowKit Go.Proofs.YthfhljdegbcpmaaW.PrintWords Go.Proofs.YthfhljdegbcpmaaW.PrintLast Go.Proofs.YthfhljdegbcpmaaW.PrintMore
attribute [local go_sem] max2_int min2_int max_two min_two max_three min_three max_four min_four   -- for this text's walks alone
set_option linter.unusedVariables false
set_option linter.unusedSimpArgs false

/-! ### ether_Build: function 8 -/
def ether_Build.j0 : Nat → Bool → Int → Int → Int → List Int → Option (List Int × Int)
  | 0, _, _, _, _, _ => none
  | k + 1, x20, x113000, x113001, x113002, x113003 => if x20 = true then (some (([] : List Int), 4)) else (if (wrap64 ((x113003.length : Int) + 14)) > 65535 then (some (([] : List Int), 5)) else ((ether_put.f ([] : List Int) x113000 6).bind fun t113 => ((ether_put.f t113 x113001 6).bind fun t116 => ((ether_put.f t116 (IntKind.u64.wrap (x113002)) 2).bind fun t119 => (if t119.length + x113003.length < 140737488355328 then (some ((t119 ++ x113003), 0)) else (none))))))
def ether_Build.f (k : Nat) (a0_0 : Int) (a0_1 : Int) (a0_2 : Int) (l0_3 : List Int) : Option (List Int × Int) := if (mx a0_0 a0_1) > 281474976710655 then (ether_Build.j0 k true a0_0 a0_1 a0_2 l0_3) else (if a0_2 < 0 then (ether_Build.j0 k true a0_0 a0_1 a0_2 l0_3) else (ether_Build.j0 k (decide (a0_2 > 65535)) a0_0 a0_1 a0_2 l0_3))
theorem ether_Build.mono_l : ∀ k, (∀ y0 y1 y2 y3 y4, LeO (ether_Build.j0 k y0 y1 y2 y3 y4) (ether_Build.j0 (k + 1) y0 y1 y2 y3 y4))
  | 0 => fun _ _ _ _ _ r h => by simp [ether_Build.j0] at h
  | k + 1 => by
    have ih0 := ether_Build.mono_l k
    · intro y0 y1 y2 y3 y4
      unfold ether_Build.j0
      repeat' first
      | (with_reducible exact ih0 _ _ _ _ _)
      | (with_reducible exact LeO.refl _)
      | (with_reducible exact LeO.none _)
      | (with_reducible refine LeO.ite ?_ ?_)
      | (with_reducible refine LeO.bind ?_ (fun _ => ?_))
      | exact ih0 _ _ _ _ _
      | exact LeO.none _
      | refine LeO.ite ?_ ?_
      | refine LeO.bind ?_ (fun _ => ?_)
theorem ether_Build.mono : ∀ a0 a1 a2 a3 k, LeO (ether_Build.f k a0 a1 a2 a3) (ether_Build.f (k + 1) a0 a1 a2 a3) := by
  intro a0 a1 a2 a3 k; have ih0 := ether_Build.mono_l k
  unfold ether_Build.f
  repeat' first
      | (with_reducible exact ih0 _ _ _ _ _)
      | (with_reducible exact LeO.refl _)
      | (with_reducible exact LeO.none _)
      | (with_reducible refine LeO.ite ?_ ?_)
      | (with_reducible refine LeO.bind ?_ (fun _ => ?_))
      | exact ih0 _ _ _ _ _
      | exact LeO.none _
      | refine LeO.ite ?_ ?_
      | refine LeO.bind ?_ (fun _ => ?_)
set_option maxHeartbeats 8000000 in
set_option maxRecDepth 100000 in
theorem ether_Build.calls (k : Nat) (a0_0 : Int) (a0_1 : Int) (a0_2 : Int) (A0_3 : Option Addr) (c0_3 : Nat) (l0_3 : List Int) (r1 : List Int) (r2 : Int) (w : World) (hr0_3 : Kd.C (Kd.int .u8) w A0_3 l0_3.length l0_3) (hc0_3 : l0_3.length ≤ c0_3) (h : ether_Build.f k a0_0 a0_1 a0_2 l0_3 = some (r1, r2)) :
    Calls Try.prog 8 #[.agg #[.int .u64 a0_0, .int .u64 a0_1, .int .i64 a0_2, .slice A0_3 l0_3.length c0_3]] w fun e w' => ∃ v0_ : Value, e = .returned (.tuple #[v0_, .int .i64 r2]) ∧ Kd.R (Kd.int .u8) 5 w' w.heap.size (fun _ => True) v0_ r1 ∧ Below w.heap.size w w' := by
  have hu25 := Try.underlying25; have HR0_3 := Aside0.mk hr0_3; have HC0_3 := Aside0.mk hc0_3; clear hr0_3 hc0_3; have HB := Aside0.mk (Below.refl w.heap.size w); have H : (if (mx a0_0 a0_1) > 281474976710655 then (ether_Build.j0 k true a0_0 a0_1 a0_2 l0_3) else (if a0_2 < 0 then (ether_Build.j0 k true a0_0 a0_1 a0_2 l0_3) else (ether_Build.j0 k (decide (a0_2 > 65535)) a0_0 a0_1 a0_2 l0_3))) = some (r1, r2) := h; clear h; have HC2 := Aside0.mk H; clear H
  go_enter Try.func8, Try.ntmps8
  go_upto_region 1 with (first | ((with_reducible refine gate_dst (N := 1) rfl ?_); refine box_event ?hg (N := 1) ?hd (cs := #[.int .u64 a0_0, .int .u64 a0_1, .int .i64 a0_2, .slice A0_3 l0_3.length c0_3]) (t := 25) ?hr ?_; (case hd => rfl); (case hg => rfl); (case hr => first | (go_simp; done) | (go_simp; rfl)); intro gb112 hg w3 hbox hb; have n0_ := Aside0.mk (below_step (bel0 HB.out) hb); have n1_ := Aside0.mk (hbox); have n2_ := Aside0.mk ((by rw [hg]; exact (below_size (bel0 HB.out)) : w.heap.size ≤ gb112)); have n3_ := n2_; clear HB; have HB := n0_; have BK112 := n1_; have GW112 := n2_; have GE112 := n3_; clear n0_ n1_ n2_ n3_; clear hb hbox hg))
  (try simp only [Act.put, List.setIfInBounds_toArray, List.set_cons_zero, List.set_cons_succ])
  go_cut [20] (fun v20 wc => ∃ (kq : Nat) (x20_1 : Bool), v20 = .bool x20_1 ∧ Aside0 (ether_Build.j0 kq x20_1 a0_0 a0_1 a0_2 l0_3 = some (r1, r2)) ∧ Aside0 (kq ≤ k) ∧ Aside0 (wc.heap[gb112]? = some (.cells #[.int .u64 a0_0, .int .u64 a0_1, .int .i64 a0_2, (.slice A0_3 l0_3.length c0_3)] 25 (0, 0))) ∧ Aside0 (Below w.heap.size w wc))
  case first =>
    have H := HC2.out; clear HC2; obtain ⟨ji4, hji4⟩ : ∃ j_ : Int, (mx a0_0 a0_1) = j_ := ⟨_, rfl⟩; replace H : (if (ji4) > 281474976710655 then (ether_Build.j0 k true a0_0 a0_1 a0_2 l0_3) else (if a0_2 < 0 then (ether_Build.j0 k true a0_0 a0_1 a0_2 l0_3) else (ether_Build.j0 k (decide (a0_2 > 65535)) a0_0 a0_1 a0_2 l0_3))) = some (r1, r2) := by first | (rw [hji4] at H; exact H) | (simp only [hji4] at H ⊢; exact H)
    have hji4_ : (if a0_0 < a0_1 then a0_1 else a0_0) = ji4 := hji4
    by_cases c5 : (ji4) > 281474976710655
    · rw [if_pos c5] at H
      have c5b0 : decide (281474976710655 < (ji4)) = true := decide_eq_true c5; clear c5
      (first | rw [c5b0] | (simp only [i64_w, i32_w]; rw [c5b0]) | skip)
      have H' := Aside0.mk H; clear H; obtain ⟨hcz6_0, hcz6_1, hcz6_2, hcz6_3⟩ := cz4 BK112.out; have hfz6_0 := blk_frozen BK112.out
      go_wp2
      go_meet
      case rel => exact ⟨_, (true), (by first | rfl | (simp; done) | (simp [*]; done)), H', ⟨by first | omega | exact Nat.le_refl _⟩, ⟨by exact skp_ BK112.out⟩, ⟨by exact bel1 HB.out GE112.out⟩⟩
    rw [if_neg c5] at H; have c5b0 : decide (281474976710655 < (ji4)) = false := decide_eq_false c5; clear c5
    (first | rw [c5b0] | (simp only [i64_w, i32_w]; rw [c5b0]) | skip)
    by_cases c7 : a0_2 < 0
    · rw [if_pos c7] at H
      have c7b0 : decide (a0_2 < 0) = true := decide_eq_true c7; clear c7; have H' := Aside0.mk H; clear H; obtain ⟨hcz8_0, hcz8_1, hcz8_2, hcz8_3⟩ := cz4 BK112.out; have hfz8_0 := blk_frozen BK112.out
      go_wp2
      go_meet
      case rel => exact ⟨_, (true), (by first | rfl | (simp; done) | (simp [*]; done)), H', ⟨by first | omega | exact Nat.le_refl _⟩, ⟨by exact skp_ BK112.out⟩, ⟨by exact bel1 HB.out GE112.out⟩⟩
    rw [if_neg c7] at H; have c7b0 : decide (a0_2 < 0) = false := decide_eq_false c7; clear c7; have H' := Aside0.mk H; clear H; obtain ⟨hcz9_0, hcz9_1, hcz9_2, hcz9_3⟩ := cz4 BK112.out; have hfz9_0 := blk_frozen BK112.out
    go_wp2
    go_meet
    case rel => exact ⟨_, (decide (a0_2 > 65535)), (by first | rfl | (simp; done) | (simp [*]; done)), H', ⟨by first | omega | exact Nat.le_refl _⟩, ⟨by exact skp_ BK112.out⟩, ⟨by exact bel1 HB.out GE112.out⟩⟩
  case rest =>
    clear HC2
    try clear p2
    try clear c5
    try clear c5b0
    try clear c7
    try clear c7b0
    try clear c8
    try clear hcz6_0
    try clear hcz6_1
    try clear hcz6_2
    try clear hcz6_3
    try clear hcz8_0
    try clear hcz8_1
    try clear hcz8_2
    try clear hcz8_3
    try clear hcz9_0
    try clear hcz9_1
    try clear hcz9_2
    try clear hcz9_3
    try clear hfz6_0
    try clear hfz6_1
    try clear hfz6_2
    try clear hfz6_3
    try clear hfz8_0
    try clear hfz8_1
    try clear hfz8_2
    try clear hfz8_3
    try clear hfz9_0
    try clear hfz9_1
    try clear hfz9_2
    try clear hfz9_3
    obtain ⟨kq, x20_1, rfl, HA, HJ1, BK112, HB⟩ := hcut
    cases kq with
    | zero => exact absurd HA.out (by simp [ether_Build.j0])
    | succ kj1 =>
      have H := HA.out; clear HA
      simp only [ether_Build.j0] at H
      by_cases c10 : x20_1 = true
      · subst c10
        have H1 : (some (([] : List Int), 4)) = some (r1, r2) := by rw [if_pos rfl] at H; exact H
        clear H; have H := H1; clear H1
        simp only [Option.some.injEq, Prod.mk.injEq] at H
        obtain ⟨rfl, rfl⟩ := H
        go_wp2
        go_ret2
        exact ⟨_, by first | rfl | (simp [errW_none, errW_some] <;> rfl) | (simp [*, errW_none, errW_some] <;> rfl), by first | exact Kd.R_nil _ _ _ _ _ | exact Kd.N_nil _ _ _ _ _ | exact Kd.V_nil _ _ _ _ _ | exact Kd.Q_nil _ _ _ _ _ | exact Kd.S_nil _ _ _ _ _, by exact bel1 HB.out GE112.out⟩
      replace c10 := Bool.eq_false_iff.mpr c10
      subst c10
      have H1 : (if (wrap64 ((l0_3.length : Int) + 14)) > 65535 then (some (([] : List Int), 5)) else ((ether_put.f ([] : List Int) a0_0 6).bind fun t113 => ((ether_put.f t113 a0_1 6).bind fun t116 => ((ether_put.f t116 (IntKind.u64.wrap (a0_2)) 2).bind fun t119 => (if t119.length + l0_3.length < 140737488355328 then (some ((t119 ++ l0_3), 0)) else (none)))))) = some (r1, r2) := by rw [if_neg (show ¬ (false = true) by decide)] at H; exact H
      clear H; have H := H1; clear H1
      by_cases c11 : (wrap64 ((l0_3.length : Int) + 14)) > 65535
      · rw [if_pos c11] at H
        have c11b0 : decide (65535 < (wrap64 ((l0_3.length : Int) + 14))) = true := decide_eq_true c11; clear c11
        simp only [Option.some.injEq, Prod.mk.injEq] at H
        obtain ⟨rfl, rfl⟩ := H; obtain ⟨hcz12_0, hcz12_1, hcz12_2, hcz12_3⟩ := cz4 BK112.out; have hfz12_0 := blk_frozen BK112.out
        go_wp2
        go_ret2
        exact ⟨_, by first | rfl | (simp [errW_none, errW_some] <;> rfl) | (simp [*, errW_none, errW_some] <;> rfl), by first | exact Kd.R_nil _ _ _ _ _ | exact Kd.N_nil _ _ _ _ _ | exact Kd.V_nil _ _ _ _ _ | exact Kd.Q_nil _ _ _ _ _ | exact Kd.S_nil _ _ _ _ _, by exact bel1 HB.out GE112.out⟩
      rw [if_neg c11] at H; have c11b0 : decide (65535 < (wrap64 ((l0_3.length : Int) + 14))) = false := decide_eq_false c11; clear c11; replace H := Option.bind_eq_some_iff.mp H; obtain ⟨t113, A130, H⟩ := H; replace H : ((ether_put.f t113 a0_1 6).bind fun t116 => ((ether_put.f t116 (IntKind.u64.wrap (a0_2)) 2).bind fun t119 => (if t119.length + l0_3.length < 140737488355328 then (some ((t119 ++ l0_3), 0)) else (none)))) = some (r1, r2) := H; have A13 := Aside0.mk A130; clear A130; replace H := Option.bind_eq_some_iff.mp H; obtain ⟨t116, A140, H⟩ := H; replace H : ((ether_put.f t116 (IntKind.u64.wrap (a0_2)) 2).bind fun t119 => (if t119.length + l0_3.length < 140737488355328 then (some ((t119 ++ l0_3), 0)) else (none))) = some (r1, r2) := H; have A14 := Aside0.mk A140; clear A140; replace H := Option.bind_eq_some_iff.mp H; obtain ⟨t119, A150, H⟩ := H; replace H : (if t119.length + l0_3.length < 140737488355328 then (some ((t119 ++ l0_3), 0)) else (none)) = some (r1, r2) := H; have A15 := Aside0.mk A150; clear A150
      by_cases c16 : t119.length + l0_3.length < 140737488355328
      · rw [if_pos c16] at H
        have LMc16 := Aside0.mk c16; clear c16; obtain ⟨y122, hy122⟩ : ∃ y_ : List Int, y_ = (t119 ++ l0_3) := ⟨_, rfl⟩; replace H : (some (y122, 0)) = some (r1, r2) := by first | (rw [hy122]; with_reducible exact H) | (have H2_ := (Option.bind_some _ _).symm.trans H; rw [hy122]; with_reducible exact H2_) | (have H2_ := (Option.bind_some _ _).symm.trans H; with_reducible exact H2_) | with_reducible exact H | (rw [hy122]; exact H) | exact H
        have Ny122 := Aside0.mk hy122; clear hy122
        simp only [Option.some.injEq, Prod.mk.injEq] at H
        obtain ⟨rfl, rfl⟩ := H; obtain ⟨hcz17_0, hcz17_1, hcz17_2, hcz17_3⟩ := cz4 BK112.out; have hfz17_0 := blk_frozen BK112.out
        go_wp2_with (first | ((with_reducible refine gate_callee (f := 20) rfl ?_); refine goesL_ (some 28) rfl rfl Try.func20 (by kernel_rfl) rfl #[.slice none 0 0, .int .u64 a0_0, .int .i64 6] rfl (by (try simp only [List.map_toArray, List.map_cons, List.map_nil]); first | done | rfl | (simp only [List.length_drop, List.length_take]; rfl)) ?_; (refine (ether_put.calls (fun k_ => some k_ = (.slice none 0 0 : Value).ownBlock) (.slice none 0 0) ([] : List Int) a0_0 6 t113 w _ ?side1 ?side2 A13.out).mono ?_); (case side1 => exact bel1 HB.out GE112.out); (case side2 => exact Kd.R_nil _ _ _ _ _); rintro e w18 ⟨v114, rfl, ho0, hb, hkp⟩; refine ⟨_, rfl, ?_⟩; have n0_ := Aside0.mk (blk_kept (skp_ BK112.out) hkp (fun hs_ => (fun e_ => by simp [Value.ownBlock] at e_) hs_)); have n1_ := Aside0.mk (Kd.R_mono (ok' := fun k_ => True) ho0 (fun k_ hk_ => trivial)); have n2_ := Aside0.mk (hb); clear BK112; clear HB; have BK112 := n0_; have HO115 := n1_; have HB := n2_; clear n0_ n1_ n2_; (try clear hb); (try clear hkp); (try clear ho0); obtain ⟨hcz19_0, hcz19_1, hcz19_2, hcz19_3⟩ := cz4 BK112.out; have hfz19_0 := blk_frozen BK112.out; obtain ⟨Ao20, co20, eo20⟩ := Kd.R_slice HO115.out; subst eo20) | ((with_reducible refine gate_callee (f := 20) rfl ?_); refine goesL_ (some 32) rfl rfl Try.func20 (by kernel_rfl) rfl #[.slice Ao20 t113.length co20, .int .u64 a0_1, .int .i64 6] rfl (by (try simp only [List.map_toArray, List.map_cons, List.map_nil]); first | done | rfl | (simp only [List.length_drop, List.length_take]; rfl)) ?_; (with_reducible refine (ether_put.calls (fun k_ => some k_ = (.slice Ao20 t113.length co20 : Value).ownBlock) (.slice Ao20 t113.length co20) t113 a0_1 6 t116 w _ ?side1 ?side2 A14.out).mono ?_); (case side1 => exact bel1 HB.out GE112.out); (case side2 => exact Kd.R_tight rfl HO115.out); rintro e w21 ⟨v117, rfl, ho0, hb, hkp⟩; refine ⟨_, rfl, ?_⟩; have n0_ := Aside0.mk (blk_kept (skp_ BK112.out) hkp (fun hs_ => (fun e_ => (Kd.R_ne HO115.out BK112.out (by decide)) e_) hs_)); have n1_ := Aside0.mk (Kd.R_mono (ok' := fun k_ => True) ho0 (fun k_ hk_ => trivial)); have n2_ := Aside0.mk (hb); clear BK112; clear HB; clear HO115; have BK112 := n0_; have HO118 := n1_; have HB := n2_; clear n0_ n1_ n2_; (try clear hb); (try clear hkp); (try clear ho0); obtain ⟨hcz22_0, hcz22_1, hcz22_2, hcz22_3⟩ := cz4 BK112.out; have hfz22_0 := blk_frozen BK112.out; obtain ⟨Ao23, co23, eo23⟩ := Kd.R_slice HO118.out; subst eo23) | ((with_reducible refine gate_callee (f := 20) rfl ?_); refine goesL_ (some 37) rfl rfl Try.func20 (by kernel_rfl) rfl #[.slice Ao23 t116.length co23, .int .u64 (IntKind.u64.wrap (a0_2)), .int .i64 2] rfl (by (try simp only [List.map_toArray, List.map_cons, List.map_nil]); first | done | rfl | (simp only [List.length_drop, List.length_take]; rfl)) ?_; (with_reducible refine (ether_put.calls (fun k_ => some k_ = (.slice Ao23 t116.length co23 : Value).ownBlock) (.slice Ao23 t116.length co23) t116 (IntKind.u64.wrap (a0_2)) 2 t119 w _ ?side1 ?side2 A15.out).mono ?_); (case side1 => exact bel1 HB.out GE112.out); (case side2 => exact Kd.R_tight rfl HO118.out); rintro e w24 ⟨v120, rfl, ho0, hb, hkp⟩; refine ⟨_, rfl, ?_⟩; have n0_ := Aside0.mk (blk_kept (skp_ BK112.out) hkp (fun hs_ => (fun e_ => (Kd.R_ne HO118.out BK112.out (by decide)) e_) hs_)); have n1_ := Aside0.mk (Kd.R_mono (ok' := fun k_ => True) ho0 (fun k_ hk_ => trivial)); have n2_ := Aside0.mk (hb); clear BK112; clear HB; clear HO118; have BK112 := n0_; have HO121 := n1_; have HB := n2_; clear n0_ n1_ n2_; (try clear hb); (try clear hkp); (try clear ho0); obtain ⟨hcz25_0, hcz25_1, hcz25_2, hcz25_3⟩ := cz4 BK112.out; have hfz25_0 := blk_frozen BK112.out) | ((with_reducible refine gate_builtin (b := .append) (xs := #[.tmp 38, .tmp 40]) rfl ?_); at_builtin; refine Kd.R_append_rows (Kd.int .u8) (w0 := w) w.heap.size rfl (.tmp 38) (.tmp 40) 23 5 (.int .u8 0) 1 rfl Try.underlying23 info5 rfl (by decide) (by omega) v120 t119 l0_3 _ _ _ (fun _ => True) (fun _ => False) rfl rfl ?aO ?aR (fun _ _ h => h) (fun _ h => h.elim) ?aF ?aB ?aS ?aL ?_; (case aR => repeat (first | exact (Kd.C_below HR0_3.out HB.out) | (with_reducible refine Kd.C_alloc ?_ _) | (with_reducible refine Kd.C_drewN ?_ _) | (with_reducible refine Kd.C_drew ?_))); (case aB => exact (bel1 HB.out GE112.out)); (case aF => exact (fun _ _ => trivial)); (case aO => exact (by (with_reducible repeat (first | apply Kd.R_alloc | apply Kd.R_drewN | apply Kd.R_drew)); exact HO121.out)); (case aS => exact (below_size (bel1 HB.out GE112.out))); (case aL => have := LMc16.out; omega); intro v123 w26 ho hb hg hat; rw [← Ny122.out] at ho; have n0_ := Aside0.mk (blk_grown (g := gb112) (o := .cells #[.int .u64 a0_0, .int .u64 a0_1, .int .i64 a0_2, .slice A0_3 l0_3.length c0_3] 25 (0, 0)) (skp_ BK112.out) hg (Kd.R_ne HO121.out BK112.out (by decide))); have n1_ := Aside0.mk (hb); have n2_ := Aside0.mk (ho); clear BK112; clear HB; clear HO121; have BK112 := n0_; have HB := n1_; have HO124 := n2_; clear n0_ n1_ n2_; clear ho hb hg hat))
        go_ret2
        exact ⟨_, by first | rfl | (simp [errW_none, errW_some] <;> rfl) | (simp [*, errW_none, errW_some] <;> rfl), by (with_reducible repeat (first | apply Kd.R_alloc | apply Kd.R_drewN | apply Kd.R_drew)); exact HO124.out, by exact bel1 HB.out GE112.out⟩
      rw [if_neg c16] at H; exact absurd H (by simp)

end Go.Proofs.Ythfhljdegbcpmaa.PA
