-- Written by a program of this session (wip/tools/mkprint.py, mp.sh) for this claim.
import Derived.Test.YtgibiffjkmmeeaaPDx0
import Derived.Test.YtgibiffjkmmeeaaPDx1
import Derived.Test.YtgibiffjkmmeeaaPDx2
import Derived.Test.YtgibiffjkmmeeaaPDx4
import Derived.Test.YtgibiffjkmmeeaaPDx5
namespace Go.Proofs.Ytgibiffjkmmeeaa.PD
open Go.RowKit Go.Proofs.YtgibiffjkmmeeaaW.PrintWords Go.Proofs.YtgibiffjkmmeeaaW.PrintLast Go.Proofs.YtgibiffjkmmeeaaW.PrintMore
attribute [local go_sem] max2_int min2_int max_two min_two max_three min_three max_four min_four   -- for this text's walks alone
set_option linter.unusedVariables false
set_option linter.unusedSimpArgs false

/-- num turns nothing and draws nothing. -/
theorem num_same (a0 : Int) (r : Int) (w : World) (h : stopcocklaw22_num.f a0 = some r) :
    Calls Try.prog 9 #[.int .i64 a0] w fun e w' => e = .returned (.int .i64 r) ∧ w' = w := by
  have H : (some a0) = some r := h
  clear h
  obtain rfl := Option.some.inj H
  go_enter Try.func9, Try.ntmps9
  go_wp2
  go_ret
  exact ⟨rfl, rfl⟩

/-! ### stopcocklaw22_HystartCalm: function 3 -/
mutual
def stopcocklaw22_HystartCalm.l0 : Nat → List Int → Int → Int → Int → Bool → Bool → Int → Int → Int → Int → Int → Option (Bool)
  | 0, _, _, _, _, _, _, _, _, _, _, _ => none
  | k + 1, x1, x5, x7, x175000, x175001, x175002, x175003, x175004, x175005, x175006, x175007 => if x7 < (x1.length : Int) then (stopcocklaw22_HystartCalm.j1 k x1 x5 x7 (decide (x7 < 60)) x175000 x175001 x175002 x175003 x175004 x175005 x175006 x175007) else (stopcocklaw22_HystartCalm.j1 k x1 x5 x7 false x175000 x175001 x175002 x175003 x175004 x175005 x175006 x175007)
def stopcocklaw22_HystartCalm.j1 : Nat → List Int → Int → Int → Bool → Int → Bool → Bool → Int → Int → Int → Int → Int → Option (Bool)
  | 0, _, _, _, _, _, _, _, _, _, _, _, _ => none
  | k + 1, x1, x5, x7, x27, x175000, x175001, x175002, x175003, x175004, x175005, x175006, x175007 => if x27 = true then ((hystart_Round.f x175000 x175001 x175002 x175003 x175004 x175005 x175006 x175007).bind fun bt175 => ((stopcocklaw22_num.f bt175.2.2.2.2.2.2.2.2).bind fun t185 => (if t185 = 0 then (if 0 ≤ x7 then (if x7 < (x1.length : Int) then (stopcocklaw22_HystartCalm.l1 k x1 (mx 0 (wrap64 (x5 - (Int.tmod (wrap64 ((Int.tmod (rd x1 x7) 50) + 50)) 50)))) x7 0 bt175.1 bt175.2.1 bt175.2.2.1 bt175.2.2.2.1 bt175.2.2.2.2.1 bt175.2.2.2.2.2.1 bt175.2.2.2.2.2.2.1 bt175.2.2.2.2.2.2.2.1) else (none)) else (none)) else (some false)))) else (some true)
def stopcocklaw22_HystartCalm.l1 : Nat → List Int → Int → Int → Int → Int → Bool → Bool → Int → Int → Int → Int → Int → Option (Bool)
  | 0, _, _, _, _, _, _, _, _, _, _, _, _ => none
  | k + 1, x1, x5, x7, x10, x175000, x175001, x175002, x175003, x175004, x175005, x175006, x175007 => if x10 < 10 then ((hystart_Sample.f k x175000 x175001 x175002 x175003 x175004 x175005 x175006 x175007 x5).bind fun bt187 => ((stopcocklaw22_num.f bt187.2.2.2.2.2.2.2.2).bind fun t197 => (if t197 = 0 then (if bt187.1 = 0 then (stopcocklaw22_HystartCalm.l1 k x1 x5 x7 (wrap64 (x10 + 1)) bt187.1 bt187.2.1 bt187.2.2.1 bt187.2.2.2.1 bt187.2.2.2.2.1 bt187.2.2.2.2.2.1 bt187.2.2.2.2.2.2.1 bt187.2.2.2.2.2.2.2.1) else (some false)) else (some false)))) else (stopcocklaw22_HystartCalm.l0 k x1 x5 (wrap64 (x7 + 1)) x175000 x175001 x175002 x175003 x175004 x175005 x175006 x175007)
end
def stopcocklaw22_HystartCalm.f (k : Nat) (a0 : Int) (l1 : List Int) : Option (Bool) := (stopcocklaw22_alive.f k).bind fun t173 => (if t173 = true then (stopcocklaw22_HystartCalm.l0 k l1 (wrap64 (1000 + (Int.tmod (wrap64 ((Int.tmod a0 100000) + 100000)) 100000))) 0 0 false false 0 0 0 0 0) else (some false))
theorem stopcocklaw22_HystartCalm.mono_l : ∀ k, (∀ y0 y1 y2 y3 y4 y5 y6 y7 y8 y9 y10, LeO (stopcocklaw22_HystartCalm.l0 k y0 y1 y2 y3 y4 y5 y6 y7 y8 y9 y10) (stopcocklaw22_HystartCalm.l0 (k + 1) y0 y1 y2 y3 y4 y5 y6 y7 y8 y9 y10)) ∧ (∀ y0 y1 y2 y3 y4 y5 y6 y7 y8 y9 y10 y11, LeO (stopcocklaw22_HystartCalm.j1 k y0 y1 y2 y3 y4 y5 y6 y7 y8 y9 y10 y11) (stopcocklaw22_HystartCalm.j1 (k + 1) y0 y1 y2 y3 y4 y5 y6 y7 y8 y9 y10 y11)) ∧ (∀ y0 y1 y2 y3 y4 y5 y6 y7 y8 y9 y10 y11, LeO (stopcocklaw22_HystartCalm.l1 k y0 y1 y2 y3 y4 y5 y6 y7 y8 y9 y10 y11) (stopcocklaw22_HystartCalm.l1 (k + 1) y0 y1 y2 y3 y4 y5 y6 y7 y8 y9 y10 y11))
  | 0 => ⟨fun _ _ _ _ _ _ _ _ _ _ _ r h => by simp [stopcocklaw22_HystartCalm.l0] at h, fun _ _ _ _ _ _ _ _ _ _ _ _ r h => by simp [stopcocklaw22_HystartCalm.j1] at h, fun _ _ _ _ _ _ _ _ _ _ _ _ r h => by simp [stopcocklaw22_HystartCalm.l1] at h⟩
  | k + 1 => by
    obtain ⟨ih0, ih1, ih2⟩ := stopcocklaw22_HystartCalm.mono_l k; refine ⟨?_, ?_, ?_⟩
    · intro y0 y1 y2 y3 y4 y5 y6 y7 y8 y9 y10
      unfold stopcocklaw22_HystartCalm.l0
      repeat' first
      | (with_reducible exact ih0 _ _ _ _ _ _ _ _ _ _ _)
      | (with_reducible exact ih1 _ _ _ _ _ _ _ _ _ _ _ _)
      | (with_reducible exact ih2 _ _ _ _ _ _ _ _ _ _ _ _)
      | (with_reducible exact hystart_Sample.mono _ _ _ _ _ _ _ _ _ _)
      | (with_reducible exact stopcocklaw22_alive.mono _)
      | (with_reducible exact LeO.refl _)
      | (with_reducible exact LeO.none _)
      | (with_reducible refine LeO.ite ?_ ?_)
      | (with_reducible refine LeO.bind ?_ (fun _ => ?_))
      | exact ih0 _ _ _ _ _ _ _ _ _ _ _
      | exact ih1 _ _ _ _ _ _ _ _ _ _ _ _
      | exact ih2 _ _ _ _ _ _ _ _ _ _ _ _
      | exact hystart_Sample.mono _ _ _ _ _ _ _ _ _ _
      | exact stopcocklaw22_alive.mono _
      | exact LeO.none _
      | refine LeO.ite ?_ ?_
      | refine LeO.bind ?_ (fun _ => ?_)
    · intro y0 y1 y2 y3 y4 y5 y6 y7 y8 y9 y10 y11
      unfold stopcocklaw22_HystartCalm.j1
      repeat' first
      | (with_reducible exact ih0 _ _ _ _ _ _ _ _ _ _ _)
      | (with_reducible exact ih1 _ _ _ _ _ _ _ _ _ _ _ _)
      | (with_reducible exact ih2 _ _ _ _ _ _ _ _ _ _ _ _)
      | (with_reducible exact hystart_Sample.mono _ _ _ _ _ _ _ _ _ _)
      | (with_reducible exact stopcocklaw22_alive.mono _)
      | (with_reducible exact LeO.refl _)
      | (with_reducible exact LeO.none _)
      | (with_reducible refine LeO.ite ?_ ?_)
      | (with_reducible refine LeO.bind ?_ (fun _ => ?_))
      | exact ih0 _ _ _ _ _ _ _ _ _ _ _
      | exact ih1 _ _ _ _ _ _ _ _ _ _ _ _
      | exact ih2 _ _ _ _ _ _ _ _ _ _ _ _
      | exact hystart_Sample.mono _ _ _ _ _ _ _ _ _ _
      | exact stopcocklaw22_alive.mono _
      | exact LeO.none _
      | refine LeO.ite ?_ ?_
      | refine LeO.bind ?_ (fun _ => ?_)
    · intro y0 y1 y2 y3 y4 y5 y6 y7 y8 y9 y10 y11
      unfold stopcocklaw22_HystartCalm.l1
      repeat' first
      | (with_reducible exact ih0 _ _ _ _ _ _ _ _ _ _ _)
      | (with_reducible exact ih1 _ _ _ _ _ _ _ _ _ _ _ _)
      | (with_reducible exact ih2 _ _ _ _ _ _ _ _ _ _ _ _)
      | (with_reducible exact hystart_Sample.mono _ _ _ _ _ _ _ _ _ _)
      | (with_reducible exact stopcocklaw22_alive.mono _)
      | (with_reducible exact LeO.refl _)
      | (with_reducible exact LeO.none _)
      | (with_reducible refine LeO.ite ?_ ?_)
      | (with_reducible refine LeO.bind ?_ (fun _ => ?_))
      | exact ih0 _ _ _ _ _ _ _ _ _ _ _
      | exact ih1 _ _ _ _ _ _ _ _ _ _ _ _
      | exact ih2 _ _ _ _ _ _ _ _ _ _ _ _
      | exact hystart_Sample.mono _ _ _ _ _ _ _ _ _ _
      | exact stopcocklaw22_alive.mono _
      | exact LeO.none _
      | refine LeO.ite ?_ ?_
      | refine LeO.bind ?_ (fun _ => ?_)
theorem stopcocklaw22_HystartCalm.mono : ∀ a0 a1 k, LeO (stopcocklaw22_HystartCalm.f k a0 a1) (stopcocklaw22_HystartCalm.f (k + 1) a0 a1) := by
  intro a0 a1 k; obtain ⟨ih0, ih1, ih2⟩ := stopcocklaw22_HystartCalm.mono_l k
  unfold stopcocklaw22_HystartCalm.f
  repeat' first
      | (with_reducible exact ih0 _ _ _ _ _ _ _ _ _ _ _)
      | (with_reducible exact ih1 _ _ _ _ _ _ _ _ _ _ _ _)
      | (with_reducible exact ih2 _ _ _ _ _ _ _ _ _ _ _ _)
      | (with_reducible exact hystart_Sample.mono _ _ _ _ _ _ _ _ _ _)
      | (with_reducible exact stopcocklaw22_alive.mono _)
      | (with_reducible exact LeO.refl _)
      | (with_reducible exact LeO.none _)
      | (with_reducible refine LeO.ite ?_ ?_)
      | (with_reducible refine LeO.bind ?_ (fun _ => ?_))
      | exact ih0 _ _ _ _ _ _ _ _ _ _ _
      | exact ih1 _ _ _ _ _ _ _ _ _ _ _ _
      | exact ih2 _ _ _ _ _ _ _ _ _ _ _ _
      | exact hystart_Sample.mono _ _ _ _ _ _ _ _ _ _
      | exact stopcocklaw22_alive.mono _
      | exact LeO.none _
      | refine LeO.ite ?_ ?_
      | refine LeO.bind ?_ (fun _ => ?_)
set_option maxHeartbeats 8000000 in
set_option maxRecDepth 100000 in
theorem stopcocklaw22_HystartCalm.calls (k : Nat) (a0 : Int) (A1 : Option Addr) (c1 : Nat) (l1 : List Int) (r : Bool) (w : World) (hr1 : Kd.C (Kd.int .i64) w A1 l1.length l1) (hc1 : l1.length ≤ c1) (h : stopcocklaw22_HystartCalm.f k a0 l1 = some r) (hrt : r = true) :
    Calls Try.prog 3 #[.int .i64 a0, .slice A1 l1.length c1] w fun e w' => e = .returned (.bool r) ∧ Below w.heap.size w w' := by
  have hu25 := Try.underlying25; have HRT := Aside0.mk hrt; clear hrt; have HR1 := Aside0.mk hr1; have HC1 := Aside0.mk hc1; clear hr1 hc1; have HB := Aside0.mk (Below.refl w.heap.size w); have H : ((stopcocklaw22_alive.f k).bind fun t173 => (if t173 = true then (stopcocklaw22_HystartCalm.l0 k l1 (wrap64 (1000 + (Int.tmod (wrap64 ((Int.tmod a0 100000) + 100000)) 100000))) 0 0 false false 0 0 0 0 0) else (some false))) = some r := h; clear h; replace H := Option.bind_eq_some_iff.mp H; obtain ⟨t173, A30, H⟩ := H; replace H : (if t173 = true then (stopcocklaw22_HystartCalm.l0 k l1 (wrap64 (1000 + (Int.tmod (wrap64 ((Int.tmod a0 100000) + 100000)) 100000))) 0 0 false false 0 0 0 0 0) else (some false)) = some r := H; have A3 := Aside0.mk A30; clear A30
  by_cases c4 : t173 = true
  · subst c4
    have H1 : (stopcocklaw22_HystartCalm.l0 k l1 (wrap64 (1000 + (Int.tmod (wrap64 ((Int.tmod a0 100000) + 100000)) 100000))) 0 0 false false 0 0 0 0 0) = some r := by rw [if_pos rfl] at H; exact H
    clear H; have H := H1; clear H1; have H' := Aside0.mk H; clear H
    go_enter Try.func3, Try.ntmps3
    go_wp2_with (first | ((with_reducible refine gate_callee (f := 7) rfl ?_); refine goesL_ (some 13) rfl rfl Try.func7 (by kernel_rfl) rfl #[] rfl (by (try simp only [List.map_toArray, List.map_cons, List.map_nil]); first | done | rfl | (simp only [List.length_drop, List.length_take]; rfl)) ?_; (with_reducible refine (stopcocklaw22_alive.calls k  true _ A3.out).mono ?_); rintro e w5 ⟨rfl, hb⟩; refine ⟨_, rfl, ?_⟩; have n0_ := Aside0.mk (below_step (bel0 HB.out) hb); clear HB; have HB := n0_; clear n0_; (try clear hb); (try clear hb2); (try clear hk); (try clear hi)) | ((with_reducible refine gate_dst (N := 6) rfl ?_); refine box_event ?hg (N := 6) ?hd (cs := #[.int .i64 0, .bool false, .bool false, .int .i64 0, .int .i64 0, .int .i64 0, .int .i64 0, .int .i64 0]) (t := 25) ?hr ?_; (case hd => rfl); (case hg => rfl); (case hr => first | (go_simp; done) | (go_simp; rfl)); intro gb174 hg w6 hbox hb; have n0_ := Aside0.mk (below_step (bel0 HB.out) hb); have n1_ := Aside0.mk (hbox); have n2_ := Aside0.mk ((by rw [hg]; exact (below_size (bel0 HB.out)) : w.heap.size ≤ gb174)); have n3_ := n2_; clear HB; have HB := n0_; have BK174 := n1_; have GW174 := n2_; have GE174 := n3_; clear n0_ n1_ n2_ n3_; clear hb hbox hg))
    go_loopg [5, 7] k (fun kq v5 v7 w' => ∃ (x5_1 : Int) (x7_1 : Int) (x175000_1 : Int) (x175001_1 : Bool) (x175002_1 : Bool) (x175003_1 : Int) (x175004_1 : Int) (x175005_1 : Int) (x175006_1 : Int) (x175007_1 : Int), v5 = .int .i64 x5_1 ∧ v7 = .int .i64 x7_1 ∧ Aside0 (stopcocklaw22_HystartCalm.l0 kq l1 x5_1 x7_1 x175000_1 x175001_1 x175002_1 x175003_1 x175004_1 x175005_1 x175006_1 x175007_1 = some r) ∧ Aside0 (kq ≤ k) ∧ Aside0 (w'.heap[gb174]? = some (.cells #[.int .i64 x175000_1, .bool x175001_1, .bool x175002_1, .int .i64 x175003_1, .int .i64 x175004_1, .int .i64 x175005_1, .int .i64 x175006_1, .int .i64 x175007_1] 25 (0, 0))) ∧ Aside0 (Below w.heap.size w w'))
    case atStart => exact ⟨(wrap64 (1000 + (Int.tmod (wrap64 ((Int.tmod a0 100000) + 100000)) 100000))), (0), (0), (false), (false), (0), (0), (0), (0), (0), (by first | rfl | (simp; done) | (simp [*]; done)), (by first | rfl | (simp; done) | (simp [*]; done)), H', ⟨Nat.le_refl _⟩, ⟨by exact skp_ BK174.out⟩, ⟨by exact bel1 HB.out GE174.out⟩⟩
    case round =>
      clear H'
      try clear c1
      try clear p2
      try clear c3
      try clear c4
      try clear p6
      obtain ⟨x5_1, x7_1, x175000_1, x175001_1, x175002_1, x175003_1, x175004_1, x175005_1, x175006_1, x175007_1, rfl, rfl, HA, HK1, BK174, HB⟩ := hrel
      cases gk with
      | zero => exact absurd HA.out (by simp [stopcocklaw22_HystartCalm.l0])
      | succ k1 =>
        have H := HA.out; clear HA
        simp only [stopcocklaw22_HystartCalm.l0] at H
        have HC7 := Aside0.mk H; clear H
        go_upto_region 6 with (fail)
        go_cut [27] (fun v27 wc => ∃ (kq : Nat) (x27_6 : Bool), v27 = .bool x27_6 ∧ Aside0 (stopcocklaw22_HystartCalm.j1 kq l1 x5_1 x7_1 x27_6 x175000_1 x175001_1 x175002_1 x175003_1 x175004_1 x175005_1 x175006_1 x175007_1 = some r) ∧ Aside0 (kq ≤ k1) ∧ Aside0 (wc.heap[gb174]? = some (.cells #[.int .i64 x175000_1, .bool x175001_1, .bool x175002_1, .int .i64 x175003_1, .int .i64 x175004_1, .int .i64 x175005_1, .int .i64 x175006_1, .int .i64 x175007_1] 25 (0, 0))) ∧ Aside0 (Below w.heap.size w wc))
        case first =>
          have H := HC7.out; clear HC7
          by_cases c8 : x7_1 < (l1.length : Int)
          · rw [if_pos c8] at H
            have c8b0 : decide (x7_1 < (l1.length : Int)) = true := decide_eq_true c8; clear c8
            (first | rw [c8b0] | (simp only [i64_w, i32_w]; rw [c8b0]) | skip)
            have H' := Aside0.mk H; clear H
            go_wp2
            go_meet
            case rel => exact ⟨_, (decide (x7_1 < 60)), (by first | rfl | (simp; done) | (simp [*]; done)), H', ⟨by have := HK1.out; first | omega | exact Nat.le_refl _⟩, ⟨by exact skp_ BK174.out⟩, ⟨by exact bel1 HB.out GE174.out⟩⟩
          rw [if_neg c8] at H; have c8b0 : decide (x7_1 < (l1.length : Int)) = false := decide_eq_false c8; clear c8
          (first | rw [c8b0] | (simp only [i64_w, i32_w]; rw [c8b0]) | skip)
          have H' := Aside0.mk H; clear H
          go_wp2
          go_meet
          case rel => exact ⟨_, (false), (by first | rfl | (simp; done) | (simp [*]; done)), H', ⟨by have := HK1.out; first | omega | exact Nat.le_refl _⟩, ⟨by exact skp_ BK174.out⟩, ⟨by exact bel1 HB.out GE174.out⟩⟩
        case rest =>
          clear HC7
          try clear c1
          try clear p2
          try clear c3
          try clear c4
          try clear p6
          try clear c7
          try clear c8
          try clear c8b0
          try clear p2
          try clear p6
          obtain ⟨kq, x27_6, rfl, HA, HJ6, BK174, HB⟩ := hcut
          cases kq with
          | zero => exact absurd HA.out (by simp [stopcocklaw22_HystartCalm.j1])
          | succ kj6 =>
            have H := HA.out; clear HA
            simp only [stopcocklaw22_HystartCalm.j1] at H
            by_cases c9 : x27_6 = true
            · subst c9
              have H1 : ((hystart_Round.f x175000_1 x175001_1 x175002_1 x175003_1 x175004_1 x175005_1 x175006_1 x175007_1).bind fun bt175 => ((stopcocklaw22_num.f bt175.2.2.2.2.2.2.2.2).bind fun t185 => (if t185 = 0 then (if 0 ≤ x7_1 then (if x7_1 < (l1.length : Int) then (stopcocklaw22_HystartCalm.l1 kj6 l1 (mx 0 (wrap64 (x5_1 - (Int.tmod (wrap64 ((Int.tmod (rd l1 x7_1) 50) + 50)) 50)))) x7_1 0 bt175.1 bt175.2.1 bt175.2.2.1 bt175.2.2.2.1 bt175.2.2.2.2.1 bt175.2.2.2.2.2.1 bt175.2.2.2.2.2.2.1 bt175.2.2.2.2.2.2.2.1) else (none)) else (none)) else (some false)))) = some r := by rw [if_pos rfl] at H; exact H
              clear H; have H := H1; clear H1; replace H := Option.bind_eq_some_iff.mp H; obtain ⟨⟨t175, t176, t177, t178, t179, t180, t181, t182, t183⟩, A100, H⟩ := H; replace H : ((stopcocklaw22_num.f t183).bind fun t185 => (if t185 = 0 then (if 0 ≤ x7_1 then (if x7_1 < (l1.length : Int) then (stopcocklaw22_HystartCalm.l1 kj6 l1 (mx 0 (wrap64 (x5_1 - (Int.tmod (wrap64 ((Int.tmod (rd l1 x7_1) 50) + 50)) 50)))) x7_1 0 t175 t176 t177 t178 t179 t180 t181 t182) else (none)) else (none)) else (some false))) = some r := H; have A10 := Aside0.mk A100; clear A100; replace H := Option.bind_eq_some_iff.mp H; obtain ⟨t185, A110, H⟩ := H; replace H : (if t185 = 0 then (if 0 ≤ x7_1 then (if x7_1 < (l1.length : Int) then (stopcocklaw22_HystartCalm.l1 kj6 l1 (mx 0 (wrap64 (x5_1 - (Int.tmod (wrap64 ((Int.tmod (rd l1 x7_1) 50) + 50)) 50)))) x7_1 0 t175 t176 t177 t178 t179 t180 t181 t182) else (none)) else (none)) else (some false)) = some r := H; have A11 := Aside0.mk A110; clear A110
              by_cases c12 : t185 = 0
              · rw [if_pos c12] at H
                have c12b0 : (t185 == 0) = true := beq_iff_eq.mpr c12; have c12b1 : (t185 != 0) = false := bne_eq_false_iff_eq.mpr c12; clear c12
                by_cases c13 : 0 ≤ x7_1
                · rw [if_pos c13] at H
                  have c13b0 : decide (0 ≤ x7_1) = true := decide_eq_true c13; clear c13
                  by_cases c14 : x7_1 < (l1.length : Int)
                  · rw [if_pos c14] at H
                    have c14b0 : decide (x7_1 < (l1.length : Int)) = true := decide_eq_true c14; clear c14; obtain ⟨ji15, hji15⟩ : ∃ j_ : Int, (mx 0 (wrap64 (x5_1 - (Int.tmod (wrap64 ((Int.tmod (rd l1 x7_1) 50) + 50)) 50)))) = j_ := ⟨_, rfl⟩; replace H : (stopcocklaw22_HystartCalm.l1 kj6 l1 ji15 x7_1 0 t175 t176 t177 t178 t179 t180 t181 t182) = some r := by first | (rw [hji15] at H; exact H) | (simp only [hji15] at H ⊢; exact H)
                    (try rw [hji15] at A10)
                    (try rw [hji15] at A11)
                    have hji15_ : (if 0 < (wrap64 (x5_1 - (Int.tmod (wrap64 ((Int.tmod (rd l1 x7_1) 50) + 50)) 50))) then (wrap64 (x5_1 - (Int.tmod (wrap64 ((Int.tmod (rd l1 x7_1) 50) + 50)) 50))) else 0) = ji15 := hji15; have H' := Aside0.mk H; clear H; obtain ⟨hcz16_0, hcz16_1, hcz16_2, hcz16_3, hcz16_4, hcz16_5, hcz16_6, hcz16_7⟩ := cz8 BK174.out; have hfz16_0 := blk_frozen BK174.out
                    go_wp2_with (first | ((with_reducible refine gate_callee (f := 8) rfl ?_); refine goesL_ (some 32) rfl rfl Try.func8 (by kernel_rfl) rfl #[.agg #[.int .i64 x175000_1, .bool x175001_1, .bool x175002_1, .int .i64 x175003_1, .int .i64 x175004_1, .int .i64 x175005_1, .int .i64 x175006_1, .int .i64 x175007_1]] rfl (by (try simp only [List.map_toArray, List.map_cons, List.map_nil]); first | done | rfl | (simp only [List.length_drop, List.length_take]; rfl)) ?_; (with_reducible refine (hystart_Round.calls x175000_1 x175001_1 x175002_1 x175003_1 x175004_1 x175005_1 x175006_1 x175007_1 t175 t176 t177 t178 t179 t180 t181 t182 t183 _ A10.out).mono ?_); rintro e w17 ⟨rfl, hb⟩; refine ⟨_, rfl, ?_⟩; have n0_ := Aside0.mk (blk_below (g := gb174) (o := .cells #[.int .i64 x175000_1, .bool x175001_1, .bool x175002_1, .int .i64 x175003_1, .int .i64 x175004_1, .int .i64 x175005_1, .int .i64 x175006_1, .int .i64 x175007_1] 25 (0, 0)) (skp_ BK174.out) hb); have n1_ := Aside0.mk (below_step (bel1 HB.out GE174.out) hb); clear BK174; clear HB; have BK174 := n0_; have HB := n1_; clear n0_ n1_; (try clear hb); (try clear hb2); (try clear hk); (try clear hi)) | ((with_reducible refine gate_dst (N := 8) rfl ?_); refine box_event ?hg (N := 8) ?hd (cs := #[.int .i64 0, .bool false, .bool false, .int .i64 0, .int .i64 0, .int .i64 0, .int .i64 0, .int .i64 0]) (t := 25) ?hr ?_; (case hd => rfl); (case hg => rfl); (case hr => first | (go_simp; done) | (go_simp; rfl)); intro gb184 hg w18 hbox hb; have n0_ := Aside0.mk (blk_below (g := gb174) (o := .cells #[.int .i64 x175000_1, .bool x175001_1, .bool x175002_1, .int .i64 x175003_1, .int .i64 x175004_1, .int .i64 x175005_1, .int .i64 x175006_1, .int .i64 x175007_1] 25 (0, 0)) (skp_ BK174.out) hb); have n1_ := Aside0.mk (below_step (bel1 HB.out GE174.out) hb); have n2_ := Aside0.mk (hbox); have n3_ := Aside0.mk ((by rw [hg]; exact (below_size (bel1 HB.out GE174.out)) : w.heap.size ≤ gb184)); have n4_ := n3_; have n5_ := Aside0.mk ((by rw [hg]; exact Nat.ne_of_lt (blk_lt (skp_ BK174.out)) : gb174 ≠ gb184)); have n6_ := Aside0.mk ((by rw [hg]; exact Nat.ne_of_gt (blk_lt (skp_ BK174.out)) : gb184 ≠ gb174)); clear BK174; clear HB; have BK174 := n0_; have HB := n1_; have BK184 := n2_; have GW184 := n3_; have GE184 := n4_; have NB174_184 := n5_; have NB184_174 := n6_; clear n0_ n1_ n2_ n3_ n4_ n5_ n6_; clear hb hbox hg; have hnb19 := NB184_174.out; have hnc19 := NB174_184.out; obtain ⟨hcz20_0, hcz20_1, hcz20_2, hcz20_3, hcz20_4, hcz20_5, hcz20_6, hcz20_7⟩ := cz8 BK184.out; have hfz20_0 := blk_frozen BK184.out) | ((with_reducible refine gate_callee (f := 9) rfl ?_); refine goesL_ (some 36) rfl rfl Try.func9 (by kernel_rfl) rfl #[.int .i64 t183] rfl (by (try simp only [List.map_toArray, List.map_cons, List.map_nil]); first | done | rfl | (simp only [List.length_drop, List.length_take]; rfl)) ?_; (with_reducible refine (num_same t183 t185 _ A11.out).mono ?_); rintro e w' ⟨rfl, rfl⟩; refine ⟨_, rfl, ?_⟩; obtain ⟨hcz21_0, hcz21_1, hcz21_2, hcz21_3, hcz21_4, hcz21_5, hcz21_6, hcz21_7⟩ := cz8 BK174.out; have hfz21_0 := blk_frozen BK174.out; have p186 : 0 ≤ (x7_1 : Int) := of_decide_eq_true (by first | (with_reducible assumption) | assumption); have q186 : x7_1 < (l1.length : Int) := of_decide_eq_true (by first | (with_reducible assumption) | assumption); obtain ⟨ad186, e186, hx186_0⟩ := Kd.at_int HR1.out x7_1 p186 q186; cases e186; have hn186_0 : ad186.block ≠ gb184 := Nat.ne_of_lt (Nat.lt_of_lt_of_le (by have := World.block_lt_of_cell? _ _ hx186_0; first | rwa [add_block] at this | exact this) GW184.out); have hn186_1 : ad186.block ≠ gb184 := Nat.ne_of_lt (Nat.lt_of_lt_of_le (by have := World.block_lt_of_cell? _ _ hx186_0; first | rwa [add_block] at this | exact this) GW184.out); have hn186_2 : ad186.block ≠ gb184 := Nat.ne_of_lt (Nat.lt_of_lt_of_le (by have := World.block_lt_of_cell? _ _ hx186_0; first | rwa [add_block] at this | exact this) GW184.out); have hn186_3 : ad186.block ≠ gb184 := Nat.ne_of_lt (Nat.lt_of_lt_of_le (by have := World.block_lt_of_cell? _ _ hx186_0; first | rwa [add_block] at this | exact this) GW184.out); have hn186_4 : ad186.block ≠ gb184 := Nat.ne_of_lt (Nat.lt_of_lt_of_le (by have := World.block_lt_of_cell? _ _ hx186_0; first | rwa [add_block] at this | exact this) GW184.out); have hn186_5 : ad186.block ≠ gb184 := Nat.ne_of_lt (Nat.lt_of_lt_of_le (by have := World.block_lt_of_cell? _ _ hx186_0; first | rwa [add_block] at this | exact this) GW184.out); have hn186_6 : ad186.block ≠ gb184 := Nat.ne_of_lt (Nat.lt_of_lt_of_le (by have := World.block_lt_of_cell? _ _ hx186_0; first | rwa [add_block] at this | exact this) GW184.out); have hn186_7 : ad186.block ≠ gb184 := Nat.ne_of_lt (Nat.lt_of_lt_of_le (by have := World.block_lt_of_cell? _ _ hx186_0; first | rwa [add_block] at this | exact this) GW184.out); have hn186_8 : ad186.block ≠ gb174 := Nat.ne_of_lt (Nat.lt_of_lt_of_le (by have := World.block_lt_of_cell? _ _ hx186_0; first | rwa [add_block] at this | exact this) GW174.out); have hn186_9 : ad186.block ≠ gb174 := Nat.ne_of_lt (Nat.lt_of_lt_of_le (by have := World.block_lt_of_cell? _ _ hx186_0; first | rwa [add_block] at this | exact this) GW174.out); have hn186_10 : ad186.block ≠ gb174 := Nat.ne_of_lt (Nat.lt_of_lt_of_le (by have := World.block_lt_of_cell? _ _ hx186_0; first | rwa [add_block] at this | exact this) GW174.out); have hn186_11 : ad186.block ≠ gb174 := Nat.ne_of_lt (Nat.lt_of_lt_of_le (by have := World.block_lt_of_cell? _ _ hx186_0; first | rwa [add_block] at this | exact this) GW174.out); have hn186_12 : ad186.block ≠ gb174 := Nat.ne_of_lt (Nat.lt_of_lt_of_le (by have := World.block_lt_of_cell? _ _ hx186_0; first | rwa [add_block] at this | exact this) GW174.out); have hn186_13 : ad186.block ≠ gb174 := Nat.ne_of_lt (Nat.lt_of_lt_of_le (by have := World.block_lt_of_cell? _ _ hx186_0; first | rwa [add_block] at this | exact this) GW174.out); have hn186_14 : ad186.block ≠ gb174 := Nat.ne_of_lt (Nat.lt_of_lt_of_le (by have := World.block_lt_of_cell? _ _ hx186_0; first | rwa [add_block] at this | exact this) GW174.out); have hn186_15 : ad186.block ≠ gb174 := Nat.ne_of_lt (Nat.lt_of_lt_of_le (by have := World.block_lt_of_cell? _ _ hx186_0; first | rwa [add_block] at this | exact this) GW174.out); replace hx186_0 := (HB.out.cell (World.block_lt_of_cell? w _ hx186_0)).trans hx186_0; replace hx186_0 := (cell_far (p := ⟨gb184, 0, none⟩) (by first | (rw [add_block]; exact hn186_0) | (show (Addr.add _ _).block ≠ _; rw [add_block]; exact hn186_0) | exact hn186_0) (.int .i64 t175)).trans hx186_0; replace hx186_0 := (cell_far (p := ⟨gb184, 1, none⟩) (by first | (rw [add_block]; exact hn186_1) | (show (Addr.add _ _).block ≠ _; rw [add_block]; exact hn186_1) | exact hn186_1) (.bool t176)).trans hx186_0; replace hx186_0 := (cell_far (p := ⟨gb184, 2, none⟩) (by first | (rw [add_block]; exact hn186_2) | (show (Addr.add _ _).block ≠ _; rw [add_block]; exact hn186_2) | exact hn186_2) (.bool t177)).trans hx186_0; replace hx186_0 := (cell_far (p := ⟨gb184, 3, none⟩) (by first | (rw [add_block]; exact hn186_3) | (show (Addr.add _ _).block ≠ _; rw [add_block]; exact hn186_3) | exact hn186_3) (.int .i64 t178)).trans hx186_0; replace hx186_0 := (cell_far (p := ⟨gb184, 4, none⟩) (by first | (rw [add_block]; exact hn186_4) | (show (Addr.add _ _).block ≠ _; rw [add_block]; exact hn186_4) | exact hn186_4) (.int .i64 t179)).trans hx186_0; replace hx186_0 := (cell_far (p := ⟨gb184, 5, none⟩) (by first | (rw [add_block]; exact hn186_5) | (show (Addr.add _ _).block ≠ _; rw [add_block]; exact hn186_5) | exact hn186_5) (.int .i64 t180)).trans hx186_0; replace hx186_0 := (cell_far (p := ⟨gb184, 6, none⟩) (by first | (rw [add_block]; exact hn186_6) | (show (Addr.add _ _).block ≠ _; rw [add_block]; exact hn186_6) | exact hn186_6) (.int .i64 t181)).trans hx186_0; replace hx186_0 := (cell_far (p := ⟨gb184, 7, none⟩) (by first | (rw [add_block]; exact hn186_7) | (show (Addr.add _ _).block ≠ _; rw [add_block]; exact hn186_7) | exact hn186_7) (.int .i64 t182)).trans hx186_0; replace hx186_0 := (cell_far (p := ⟨gb174, 0, none⟩) (by first | (rw [add_block]; exact hn186_8) | (show (Addr.add _ _).block ≠ _; rw [add_block]; exact hn186_8) | exact hn186_8) (.int .i64 t175)).trans hx186_0; replace hx186_0 := (cell_far (p := ⟨gb174, 1, none⟩) (by first | (rw [add_block]; exact hn186_9) | (show (Addr.add _ _).block ≠ _; rw [add_block]; exact hn186_9) | exact hn186_9) (.bool t176)).trans hx186_0; replace hx186_0 := (cell_far (p := ⟨gb174, 2, none⟩) (by first | (rw [add_block]; exact hn186_10) | (show (Addr.add _ _).block ≠ _; rw [add_block]; exact hn186_10) | exact hn186_10) (.bool t177)).trans hx186_0; replace hx186_0 := (cell_far (p := ⟨gb174, 3, none⟩) (by first | (rw [add_block]; exact hn186_11) | (show (Addr.add _ _).block ≠ _; rw [add_block]; exact hn186_11) | exact hn186_11) (.int .i64 t178)).trans hx186_0; replace hx186_0 := (cell_far (p := ⟨gb174, 4, none⟩) (by first | (rw [add_block]; exact hn186_12) | (show (Addr.add _ _).block ≠ _; rw [add_block]; exact hn186_12) | exact hn186_12) (.int .i64 t179)).trans hx186_0; replace hx186_0 := (cell_far (p := ⟨gb174, 5, none⟩) (by first | (rw [add_block]; exact hn186_13) | (show (Addr.add _ _).block ≠ _; rw [add_block]; exact hn186_13) | exact hn186_13) (.int .i64 t180)).trans hx186_0; replace hx186_0 := (cell_far (p := ⟨gb174, 6, none⟩) (by first | (rw [add_block]; exact hn186_14) | (show (Addr.add _ _).block ≠ _; rw [add_block]; exact hn186_14) | exact hn186_14) (.int .i64 t181)).trans hx186_0; replace hx186_0 := (cell_far (p := ⟨gb174, 7, none⟩) (by first | (rw [add_block]; exact hn186_15) | (show (Addr.add _ _).block ≠ _; rw [add_block]; exact hn186_15) | exact hn186_15) (.int .i64 t182)).trans hx186_0; clear hn186_0; clear hn186_1; clear hn186_2; clear hn186_3; clear hn186_4; clear hn186_5; clear hn186_6; clear hn186_7; clear hn186_8; clear hn186_9; clear hn186_10; clear hn186_11; clear hn186_12; clear hn186_13; clear hn186_14; clear hn186_15; replace p186 := eq_true p186; replace q186 := eq_true q186))
                    go_loopg [10] kj6 (fun kq v10 w' => ∃ (x10_3 : Int) (x175000_3 : Int) (x175001_3 : Bool) (x175002_3 : Bool) (x175003_3 : Int) (x175004_3 : Int) (x175005_3 : Int) (x175006_3 : Int) (x175007_3 : Int), v10 = .int .i64 x10_3 ∧ Aside0 (stopcocklaw22_HystartCalm.l1 kq l1 ji15 x7_1 x10_3 x175000_3 x175001_3 x175002_3 x175003_3 x175004_3 x175005_3 x175006_3 x175007_3 = some r) ∧ Aside0 (kq ≤ kj6) ∧ Aside0 (w'.heap[gb174]? = some (.cells #[.int .i64 x175000_3, .bool x175001_3, .bool x175002_3, .int .i64 x175003_3, .int .i64 x175004_3, .int .i64 x175005_3, .int .i64 x175006_3, .int .i64 x175007_3] 25 (0, 0))) ∧ Aside0 (w'.heap[gb184]? = some (.cells #[.int .i64 t175, .bool t176, .bool t177, .int .i64 t178, .int .i64 t179, .int .i64 t180, .int .i64 t181, .int .i64 t182] 25 (0, 0))) ∧ Aside0 (Below w.heap.size w w'))
                    case atStart => exact ⟨(0), (t175), (t176), (t177), (t178), (t179), (t180), (t181), (t182), (by first | rfl | (simp; done) | (simp [*]; done)), H', ⟨Nat.le_refl _⟩, ⟨by refine put_ (cs := #[.int .i64 x175000_1, .bool x175001_1, .bool x175002_1, .int .i64 x175003_1, .int .i64 x175004_1, .int .i64 x175005_1, .int .i64 x175006_1, .int .i64 x175007_1]) ?_ rfl; exact far_ NB174_184.out BK174.out⟩, ⟨by refine far_ NB184_174.out ?_; exact put_ BK184.out rfl⟩, ⟨by exact bel2 HB.out GE174.out GE184.out⟩⟩
                    case round =>
                      clear H'
                      try clear c1
                      try clear p1
                      try clear q1
                      try clear hx1
                      try clear p2
                      try clear c3
                      try clear c4
                      try clear p6
                      try clear c7
                      try clear c8
                      try clear c8b0
                      try clear c9
                      try clear c12
                      try clear c12b0
                      try clear c12b1
                      try clear c13
                      try clear c13b0
                      try clear c14
                      try clear c14b0
                      try clear p18
                      try clear q18
                      try clear hx18
                      try clear c19
                      try clear hcz16_0
                      try clear hcz16_1
                      try clear hcz16_2
                      try clear hcz16_3
                      try clear hcz16_4
                      try clear hcz16_5
                      try clear hcz16_6
                      try clear hcz16_7
                      try clear hcz20_0
                      try clear hcz20_1
                      try clear hcz20_2
                      try clear hcz20_3
                      try clear hcz20_4
                      try clear hcz20_5
                      try clear hcz20_6
                      try clear hcz20_7
                      try clear hcz21_0
                      try clear hcz21_1
                      try clear hcz21_2
                      try clear hcz21_3
                      try clear hcz21_4
                      try clear hcz21_5
                      try clear hcz21_6
                      try clear hcz21_7
                      try clear hfz16_0
                      try clear hfz16_1
                      try clear hfz16_2
                      try clear hfz16_3
                      try clear hfz16_4
                      try clear hfz16_5
                      try clear hfz16_6
                      try clear hfz16_7
                      try clear hfz20_0
                      try clear hfz20_1
                      try clear hfz20_2
                      try clear hfz20_3
                      try clear hfz20_4
                      try clear hfz20_5
                      try clear hfz20_6
                      try clear hfz20_7
                      try clear hfz21_0
                      try clear hfz21_1
                      try clear hfz21_2
                      try clear hfz21_3
                      try clear hfz21_4
                      try clear hfz21_5
                      try clear hfz21_6
                      try clear hfz21_7
                      try clear hx186_0
                      try clear p186
                      try clear p2
                      try clear p6
                      try clear q186
                      obtain ⟨x10_3, x175000_3, x175001_3, x175002_3, x175003_3, x175004_3, x175005_3, x175006_3, x175007_3, rfl, HA, HK3, BK174, BK184, HB⟩ := hrel
                      cases gk with
                      | zero => exact absurd HA.out (by simp [stopcocklaw22_HystartCalm.l1])
                      | succ k3 =>
                        have H := HA.out; clear HA
                        simp only [stopcocklaw22_HystartCalm.l1] at H
                        by_cases c22 : x10_3 < 10
                        · rw [if_pos c22] at H
                          have c22b0 : decide (x10_3 < 10) = true := decide_eq_true c22; clear c22; replace H := Option.bind_eq_some_iff.mp H; obtain ⟨⟨t187, t188, t189, t190, t191, t192, t193, t194, t195⟩, A230, H⟩ := H; replace H : ((stopcocklaw22_num.f t195).bind fun t197 => (if t197 = 0 then (if t187 = 0 then (stopcocklaw22_HystartCalm.l1 k3 l1 ji15 x7_1 (wrap64 (x10_3 + 1)) t187 t188 t189 t190 t191 t192 t193 t194) else (some false)) else (some false))) = some r := H; have A23 := Aside0.mk A230; clear A230; replace H := Option.bind_eq_some_iff.mp H; obtain ⟨t197, A240, H⟩ := H; replace H : (if t197 = 0 then (if t187 = 0 then (stopcocklaw22_HystartCalm.l1 k3 l1 ji15 x7_1 (wrap64 (x10_3 + 1)) t187 t188 t189 t190 t191 t192 t193 t194) else (some false)) else (some false)) = some r := H; have A24 := Aside0.mk A240; clear A240
                          by_cases c25 : t197 = 0
                          · rw [if_pos c25] at H
                            have c25b0 : (t197 == 0) = true := beq_iff_eq.mpr c25; have c25b1 : (t197 != 0) = false := bne_eq_false_iff_eq.mpr c25; clear c25
                            by_cases c26 : t187 = 0
                            · rw [if_pos c26] at H
                              have c26b0 : (t187 == 0) = true := beq_iff_eq.mpr c26; have c26b1 : (t187 != 0) = false := bne_eq_false_iff_eq.mpr c26; clear c26; have H' := Aside0.mk H; clear H; have hnb27 := NB174_184.out; have hnc27 := NB184_174.out; obtain ⟨hcz28_0, hcz28_1, hcz28_2, hcz28_3, hcz28_4, hcz28_5, hcz28_6, hcz28_7⟩ := cz8 BK174.out; have hfz28_0 := blk_frozen BK174.out
                              go_wp2_with (first | ((with_reducible refine gate_callee (f := 10) rfl ?_); refine goesL_ (some 56) rfl rfl Try.func10 (by kernel_rfl) rfl #[.agg #[.int .i64 x175000_3, .bool x175001_3, .bool x175002_3, .int .i64 x175003_3, .int .i64 x175004_3, .int .i64 x175005_3, .int .i64 x175006_3, .int .i64 x175007_3], .int .i64 ji15] rfl (by (try simp only [List.map_toArray, List.map_cons, List.map_nil]); first | done | (simp only [hji15]; rfl) | rfl | (simp only [List.length_drop, List.length_take]; rfl)) ?_; (with_reducible refine (hystart_Sample.calls k3 x175000_3 x175001_3 x175002_3 x175003_3 x175004_3 x175005_3 x175006_3 x175007_3 ji15 t187 t188 t189 t190 t191 t192 t193 t194 t195 _ A23.out).mono ?_); rintro e w29 ⟨rfl, hb⟩; refine ⟨_, rfl, ?_⟩; have n0_ := Aside0.mk (blk_below (g := gb174) (o := .cells #[.int .i64 x175000_3, .bool x175001_3, .bool x175002_3, .int .i64 x175003_3, .int .i64 x175004_3, .int .i64 x175005_3, .int .i64 x175006_3, .int .i64 x175007_3] 25 (0, 0)) (skp_ BK174.out) hb); have n1_ := Aside0.mk (blk_below (g := gb184) (o := .cells #[.int .i64 t175, .bool t176, .bool t177, .int .i64 t178, .int .i64 t179, .int .i64 t180, .int .i64 t181, .int .i64 t182] 25 (0, 0)) (skp_ BK184.out) hb); have n2_ := Aside0.mk (below_step (bel2 HB.out GE174.out GE184.out) hb); clear BK174; clear BK184; clear HB; have BK174 := n0_; have BK184 := n1_; have HB := n2_; clear n0_ n1_ n2_; (try clear hb); (try clear hb2); (try clear hk); (try clear hi)) | ((with_reducible refine gate_dst (N := 11) rfl ?_); refine box_event ?hg (N := 11) ?hd (cs := #[.int .i64 0, .bool false, .bool false, .int .i64 0, .int .i64 0, .int .i64 0, .int .i64 0, .int .i64 0]) (t := 25) ?hr ?_; (case hd => rfl); (case hg => rfl); (case hr => first | (go_simp; done) | (go_simp; rfl)); intro gb196 hg w30 hbox hb; have n0_ := Aside0.mk (blk_below (g := gb174) (o := .cells #[.int .i64 x175000_3, .bool x175001_3, .bool x175002_3, .int .i64 x175003_3, .int .i64 x175004_3, .int .i64 x175005_3, .int .i64 x175006_3, .int .i64 x175007_3] 25 (0, 0)) (skp_ BK174.out) hb); have n1_ := Aside0.mk (blk_below (g := gb184) (o := .cells #[.int .i64 t175, .bool t176, .bool t177, .int .i64 t178, .int .i64 t179, .int .i64 t180, .int .i64 t181, .int .i64 t182] 25 (0, 0)) (skp_ BK184.out) hb); have n2_ := Aside0.mk (below_step (bel2 HB.out GE174.out GE184.out) hb); have n3_ := Aside0.mk (hbox); have n4_ := Aside0.mk ((by rw [hg]; exact (below_size (bel2 HB.out GE174.out GE184.out)) : w.heap.size ≤ gb196)); have n5_ := n4_; have n6_ := Aside0.mk ((by rw [hg]; exact Nat.ne_of_lt (blk_lt (skp_ BK174.out)) : gb174 ≠ gb196)); have n7_ := Aside0.mk ((by rw [hg]; exact Nat.ne_of_gt (blk_lt (skp_ BK174.out)) : gb196 ≠ gb174)); have n8_ := Aside0.mk ((by rw [hg]; exact Nat.ne_of_lt (blk_lt (skp_ BK184.out)) : gb184 ≠ gb196)); have n9_ := Aside0.mk ((by rw [hg]; exact Nat.ne_of_gt (blk_lt (skp_ BK184.out)) : gb196 ≠ gb184)); clear BK174; clear BK184; clear HB; have BK174 := n0_; have BK184 := n1_; have HB := n2_; have BK196 := n3_; have GW196 := n4_; have GE196 := n5_; have NB174_196 := n6_; have NB196_174 := n7_; have NB184_196 := n8_; have NB196_184 := n9_; clear n0_ n1_ n2_ n3_ n4_ n5_ n6_ n7_ n8_ n9_; clear hb hbox hg; have hnb31 := NB196_174.out; have hnc31 := NB174_196.out; have hnb32 := NB196_184.out; have hnc32 := NB184_196.out; obtain ⟨hcz33_0, hcz33_1, hcz33_2, hcz33_3, hcz33_4, hcz33_5, hcz33_6, hcz33_7⟩ := cz8 BK196.out; have hfz33_0 := blk_frozen BK196.out) | ((with_reducible refine gate_callee (f := 9) rfl ?_); refine goesL_ (some 60) rfl rfl Try.func9 (by kernel_rfl) rfl #[.int .i64 t195] rfl (by (try simp only [List.map_toArray, List.map_cons, List.map_nil]); first | done | rfl | (simp only [List.length_drop, List.length_take]; rfl)) ?_; (with_reducible refine (num_same t195 t197 _ A24.out).mono ?_); rintro e w' ⟨rfl, rfl⟩; refine ⟨_, rfl, ?_⟩; obtain ⟨hcz34_0, hcz34_1, hcz34_2, hcz34_3, hcz34_4, hcz34_5, hcz34_6, hcz34_7⟩ := cz8 BK174.out; have hfz34_0 := blk_frozen BK174.out))
                              go_roundg k3
                              case measure => have := HK1.out; have := HJ6.out; have := HK3.out; omega
                              case rel => exact ⟨(wrap64 (x10_3 + 1)), (t187), (t188), (t189), (t190), (t191), (t192), (t193), (t194), (by first | rfl | (simp; done) | (simp [*]; done)), H', ⟨by have := HK1.out; have := HJ6.out; have := HK3.out; omega⟩, ⟨by refine put_ (cs := #[.int .i64 x175000_3, .bool x175001_3, .bool x175002_3, .int .i64 x175003_3, .int .i64 x175004_3, .int .i64 x175005_3, .int .i64 x175006_3, .int .i64 x175007_3]) ?_ rfl; exact far_ NB174_196.out BK174.out⟩, ⟨by refine far_ NB184_174.out ?_; exact far_ NB184_196.out BK184.out⟩, ⟨by exact bel3 HB.out GE174.out GE184.out GE196.out⟩⟩
                            rw [if_neg c26] at H; have c26b0 : (t187 == 0) = false := beq_eq_false_iff_ne.mpr c26; have c26b1 : (t187 != 0) = true := bne_iff_ne.mpr c26; exact absurd ((Option.some.inj H).trans HRT.out) (by decide)
                          rw [if_neg c25] at H; have c25b0 : (t197 == 0) = false := beq_eq_false_iff_ne.mpr c25; have c25b1 : (t197 != 0) = true := bne_iff_ne.mpr c25; exact absurd ((Option.some.inj H).trans HRT.out) (by decide)
                        rw [if_neg c22] at H; have c22b0 : decide (x10_3 < 10) = false := decide_eq_false c22; clear c22; have H' := Aside0.mk H; clear H
                        go_wp2
                        go_roundg k3
                        case measure => have := HK1.out; have := HJ6.out; have := HK3.out; omega
                        case rel => exact ⟨(ji15), (wrap64 (x7_1 + 1)), (x175000_3), (x175001_3), (x175002_3), (x175003_3), (x175004_3), (x175005_3), (x175006_3), (x175007_3), (by first | rfl | (simp; done) | (simp only [← hji15] <;> (first | rfl | simp)) | (simp [*]; done)), (by first | rfl | (simp; done) | (simp [*]; done)), H', ⟨by have := HK1.out; have := HJ6.out; have := HK3.out; omega⟩, ⟨by exact skp_ BK174.out⟩, ⟨by exact bel2 HB.out GE174.out GE184.out⟩⟩
                  rw [if_neg c14] at H; exact absurd H (by simp)
                rw [if_neg c13] at H; exact absurd H (by simp)
              rw [if_neg c12] at H; have c12b0 : (t185 == 0) = false := beq_eq_false_iff_ne.mpr c12; have c12b1 : (t185 != 0) = true := bne_iff_ne.mpr c12; exact absurd ((Option.some.inj H).trans HRT.out) (by decide)
            replace c9 := Bool.eq_false_iff.mpr c9
            subst c9
            have H1 : (some true) = some r := by rw [if_neg (show ¬ (false = true) by decide)] at H; exact H
            clear H; have H := H1; clear H1; obtain rfl := Option.some.inj H
            go_wp2
            go_ret
            exact ⟨by first | rfl | (simp [errW_none, errW_some] <;> rfl) | (simp [*, errW_none, errW_some] <;> rfl), by exact bel1 HB.out GE174.out⟩
  replace c4 := Bool.eq_false_iff.mpr c4
  subst c4
  have H1 : (some false) = some r := by rw [if_neg (show ¬ (false = true) by decide)] at H; exact H
  clear H; have H := H1; clear H1; exact absurd ((Option.some.inj H).trans HRT.out) (by decide)

/-- THE ONE PURE STATEMENT of stopcocklaw22_HystartCalm: yours. -/
def stopcocklaw22_HystartCalm.Pure : Prop := ∀ (a0 : Int) (l1 : List Int), (Lit.int .i64 a0).wf = true → l1.length ≤ maxLen → l1.length * 8 ≤ 140737488351232 → (∀ x ∈ l1, (Lit.int .i64 x).wf = true) → ∃ k, stopcocklaw22_HystartCalm.f k a0 l1 = some true
theorem stopcocklaw22_HystartCalm.walk (P : stopcocklaw22_HystartCalm.Pure) (a0 : Int) (a1 : Option Addr) (len1 cap1 : Nat) (z1 : List Int) (w : World) (w0 : (Lit.int .i64 a0).wf = true) (w1 : (a1 = none ∧ len1 = 0 ∧ cap1 = 0 ∧ z1 = []) ∨ ∃ x, a1 = some x ∧ len1 ≤ cap1 ∧ cap1 ≤ maxLen ∧ z1.length = cap1 ∧ (∀ i, i < z1.length → w.cell? (x.add i) = some (.int .i64 (z1.getD i 0))) ∧ ∀ n ∈ z1, (Lit.int .i64 n).wf = true) (y1 : len1 * 8 ≤ 140737488351232) :
    Calls Try.prog 3 #[.int .i64 a0, .slice a1 len1 cap1] w fun e w' => e = .returned (.bool true) ∧ Below w.heap.size w w' := by
  obtain ⟨l1, rfl, hr1, hm1, hw1, hc1⟩ := ReadsInt.ofRowC w1; obtain ⟨k, h⟩ := P a0 l1 w0 hm1 y1 hw1; refine (stopcocklaw22_HystartCalm.calls k a0 _ _ l1 true w (Kd.C_of_reads (d := (0 : Int)) (h1 := fun _ => rfl) hr1) hc1 h rfl).mono ?_
  rintro e w' ⟨rfl, hd⟩
  exact ⟨rfl, hd⟩

end Go.Proofs.Ytgibiffjkmmeeaa.PD
